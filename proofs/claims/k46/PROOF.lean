import PyProof.Rows.All
import Wide.All
import OpenK.AllK
import Wide.FinOn
import HandS.ForMost
import HandS.ForExc
import HandS.Wide
import HandS.WideBits
import HandS.IsInst
import HandS.Conv
import HandS.NoneIn
import KE.KeyNested
import HandS.TupAny
import HandS.Head0
import HandS.Head1
import HandS.Head2
import HandS.HeadEnd
import HandS.HeadHook1
import HandS.HeadHook2
import HandS.RevRange
import HandS.Flow
import HandS.Comp
import HandS.Style
import HandS.Iter
import KE.KMinKey
import HandS.SortKw
import HandS.More
import HandS.ExcInit
import HandS.ExcField
import HandS.ExcIs
import HandS.Hot
import HandS.HotCalls
import PyProof.ZipIter
import PyProof.Rows.TupIter
import KE.KExcIs
import HandS.Deep
import HandS.SortRule
import HandS.TupLen
import KE.KDictPairs
import HandS.WordsDict
import PyProof.MinMaxWalk
import PyProof.WalkInts
import PyProof.Draws
import KE.KDictZip
import PyProof.DictUpdate
import PyProof.NeKinds
import HandS.ExcCtx
import HandS.Text
import KE.IntTextLaws
import HandS.Dict
import HandS.RaiseMore
import PySem.Challenge.RW_slackfigures_k46_whole_texts_of_deeds
set_option Elab.async false
set_option linter.all false
set_option maxRecDepth 100000
namespace Z
open PySem L2
abbrev D := PyData
abbrev DS := List (Option D)
abbrev Fg := PySem.W.Frag
inductive Kd where
  | sh : Kd
  | ls : Kd → Kd
  | pm : Kd → Kd
  | dc : Nat → Kd
  | oe : List (Str × Addr) → Kd
  | of : Str → Kd → Kd → Kd
  | te : Kd
  | tc : Kd → Kd → Kd
  | op : Kd → Kd
  | xr : Addr → Kd
  | hx : Addr → Kd → Kd
  | sd : Kd
  | sq : Kd → Kd
  | at : Addr → Kd → Kd
deriving DecidableEq
inductive All3 {α β γ : Type} (P : α → β → γ → Prop) : List α → List β → List γ → Prop
  | nil : All3 P [] [] []
  | cons {a b c as bs cs} : P a b c → All3 P as bs cs → All3 P (a :: as) (b :: bs) (c :: cs)
abbrev OwR := V → D → List Addr → Prop
def keyD : Key → D
  | .inl i => .int i
  | .inr x => .str x
inductive KvR (K : Fg) (F : Hp) {κ : Type} (kd : κ → D) : List (κ × V) → List (D × D) → Prop
  | nil : KvR K F kd [] []
  | cons {k v d kvs ds} : Dp K F v d → KvR K F kd kvs ds → KvR K F kd ((k, v) :: kvs) ((kd k, d) :: ds)
mutual
def nkD : NestedKey → D
  | .none => .none
  | .num i => .int i
  | .text x => .str x
  | .tup ks => .tuple (nkDs ks)
def nkDs : List NestedKey → List D
  | [] => []
  | k :: r => nkD k :: nkDs r
end
mutual
def nkI : NestedKey → Bool
  | .num _ => true
  | .tup ks => nkIs ks
  | _ => false
def nkIs : List NestedKey → Bool
  | [] => true
  | k :: r => nkI k && nkIs r
end
abbrev NdX := NestedKey × Addr × V
def NdO (p : Addr) (xs : List NdX) : HO := .ext fun h => (p == sysModules) = false ∧ xs.length ≤ sizeLine ∧ ∃ us : List (NestedKey × Addr × Value),
  Paired (fun (x : NdX) (u : NestedKey × Addr × Value) => x.1 = u.1 ∧ x.2.1 = u.2.1 ∧ RelV x.2.2 u.2.2) xs us ∧
  ∃ o es ep, h.get? p = some o ∧ o.ExactDict ∧ o.data = .dict es ep ∧ (∀ (P : Program) (w : World), es.toList = us.map (entryOfKey (nestedKind P w))) ∧ (us.map (·.1)).Nodup
inductive KnR (K : Fg) (F : Hp) : List NdX → List (D × D) → Prop
  | nil : KnR K F [] []
  | cons {k : NestedKey} {b v d xs ds} : nkI k = true → k.depth ≤ 8 → Dp K F (.ref b) (nkD k) → Dp K F v d → KnR K F xs ds → KnR K F ((k, b, v) :: xs) ((nkD k, d) :: ds)
def DcR (K : Fg) (F H : Hp) : Nat → Addr → List (D × D) → Prop
  | 0, p, dk => ∃ kvs : List (Key × V), H p = some (.dK kvs) ∧ KvR K F keyD kvs dk
  | _ + 1, p, dk => ∃ xs, H p = some (NdO p xs) ∧ KnR K F xs dk
def SdO (K : Fg) (F : Hp) : OwR := fun v d fp => fp = [] ∧ ∃ p dk o, ∃ kvs : List (Key × V), v = .ref p ∧ d = .dict dk ∧ F p = some (.frz o (.dK kvs)) ∧ KvR K F keyD kvs dk
def DcO (K : Fg) (F H : Hp) (n : Nat) : OwR := fun v d fp => ∃ p dk, v = .ref p ∧ d = .dict dk ∧ fp = [p] ∧ DcR K F H n p dk
def holeD : D := .dict [(.none, .none)]
inductive FlO (R : Str → OwR) : List (Str × V) → List (D × D) → List (List Addr) → Prop
  | nil : FlO R [] [] []
  | cons {f v d fp vs ds fs} : R f v d fp → FlO R vs ds fs → FlO R ((f, v) :: vs) ((.str f, d) :: ds) (fp :: fs)
def recK (fs : List (Str × V)) : HO := .dK (fs.map fun x => (.inr x.1, x.2))
def ObO (H : Hp) (R : Str → OwR) (cs : List (Str × Addr)) : OwR := fun v d fp => (∃ p C dx cls fs ds gs, v = .ref p ∧ d = .dict ((.none, .str cls) :: ds) ∧ H p = some (.ins C dx fs) ∧ H dx = some (.own p) ∧ cs.lookup cls = some C ∧ fp = p :: dx :: gs.flatten ∧ FlO R fs ds gs) ∨
  (cs = [] ∧ ∃ p cls fs ds gs, v = .ref p ∧ d = .dict ((.none, .str cls) :: ds) ∧ H p = some (recK fs) ∧ fp = p :: gs.flatten ∧ FlO R fs ds gs)
abbrev TowR := List V → List D → List (List Addr) → Prop
def TpO (H : Hp) (R : TowR) : OwR := fun v d fp => ∃ p xs ds fs, v = .ref p ∧ d = .tuple ds ∧ H p = some (.tup xs) ∧ fp = p :: fs.flatten ∧ R xs ds fs
def TcR (A : OwR) (R : TowR) : TowR := fun xs ds fs => ∃ x d f xr dr fr, xs = x :: xr ∧ ds = d :: dr ∧ fs = f :: fr ∧ A x d f ∧ R xr dr fr
structure Ow2R where
  a : OwR
  f : Str → OwR
  c : List (Str × Addr)
  t : TowR
def ShO (K : Fg) (F : Hp) : OwR := fun v d fp => fp = [] ∧ Dp K F v d
def Ow2h (K : Fg) (F : Hp) : Kd → Hp → Ow2R
  | .sh, H => ⟨ShO K F, fun _ => ShO K F, [], fun _ _ _ => False⟩
  | .ls k, H => ⟨fun v d fp => ∃ p xs ds fs, v = .ref p ∧ d = .list ds ∧ H p = some (.lst xs) ∧ fp = p :: fs.flatten ∧ All3 (Ow2h K F k H).a xs ds fs, fun _ => ShO K F, [], fun _ _ _ => False⟩
  | .pm k, H => ⟨(Ow2h K F k H).a, fun _ => ShO K F, [], fun _ _ _ => False⟩
  | .dc n, H => ⟨DcO K F H n, fun _ => ShO K F, [], fun _ _ _ => False⟩
  | .oe cs, H => ⟨ObO H (fun _ => ShO K F) cs, fun _ => ShO K F, cs, fun _ _ _ => False⟩
  | .of f k r, H => ⟨ObO H (fun g => if g = f then (Ow2h K F k H).a else (Ow2h K F r H).f g) (Ow2h K F r H).c, fun g => if g = f then (Ow2h K F k H).a else (Ow2h K F r H).f g, (Ow2h K F r H).c, fun _ _ _ => False⟩
  | .te, H => ⟨TpO H (fun xs ds fs => xs = [] ∧ ds = [] ∧ fs = []), fun _ => ShO K F, [], fun xs ds fs => xs = [] ∧ ds = [] ∧ fs = []⟩
  | .tc k r, H => ⟨TpO H (TcR (Ow2h K F k H).a (Ow2h K F r H).t), fun _ => ShO K F, [], TcR (Ow2h K F k H).a (Ow2h K F r H).t⟩
  | .op k, H => ⟨fun v d fp => (v = .non ∧ d = .none ∧ fp = []) ∨ (Ow2h K F k H).a v d fp, fun _ => ShO K F, [], fun _ _ _ => False⟩
  | .xr a, H => ⟨fun v _ fp => v = .ref a ∧ fp = [], fun _ => ShO K F, [], fun _ _ _ => False⟩
  | .hx a k, H => ⟨fun v d fp => (v = .ref a ∧ d = holeD ∧ fp = []) ∨ (Ow2h K F k H).a v d fp, fun _ => ShO K F, [], fun _ _ _ => False⟩
  | .sq k, _ => ⟨fun v d fp => fp = [] ∧ ∃ fp', (Ow2h K F k F).a v d fp', fun _ => ShO K F, [], fun _ _ _ => False⟩
  | .at a k, H => ⟨fun v d fp => v = .ref a ∧ (Ow2h K F k H).a v d fp, fun _ => ShO K F, [], fun _ _ _ => False⟩
  | .sd, H => ⟨SdO K F, fun _ => ShO K F, [], fun _ _ _ => False⟩
abbrev Ow2 (K : Fg) (F H : Hp) (k : Kd) : Ow2R := Ow2h K F k H
def Ow (K : Fg) (F H : Hp) (k : Kd) : OwR := (Ow2 K F H k).a
theorem All3.imp {α β γ : Type} {P Q : α → β → γ → Prop} : ∀ {xs ys zs}, All3 P xs ys zs → (∀ a b c, c ∈ zs → P a b c → Q a b c) → All3 Q xs ys zs
  | _, _, _, .nil, _ => .nil
  | _, _, _, .cons h t, f => .cons (f _ _ _ (List.mem_cons_self) h) (t.imp fun a b c hc => f a b c (List.mem_cons_of_mem _ hc))
theorem All3.len {α β γ : Type} {P : α → β → γ → Prop} : ∀ {xs ys zs}, All3 P xs ys zs → xs.length = ys.length ∧ zs.length = ys.length
  | _, _, _, .nil => ⟨rfl, rfl⟩
  | _, _, _, .cons _ t => by
    have h := t.len
    simp only [List.length_cons]
    omega
theorem sqL_mono {K : Fg} {H H' : Hp} (e : Same H H') {a : Addr} {xs : List V} (h : SqL K H a xs) : SqL K H' a xs := e.seq h
theorem sqT_mono {K : Fg} {H H' : Hp} (e : Same H H') {a : Addr} {xs : List V} (h : SqT K H a xs) : SqT K H' a xs := by
  rcases h with (h | ⟨o, h⟩) | h
  · exact .inl (.inl (e _ _ h))
  · exact .inl (.inr ⟨o, e _ _ h⟩)
  · exact .inr h
mutual
theorem dp_mono {K : Fg} {H H' : Hp} (e : Same H H') : ∀ {v : V} {d : D}, Dp K H v d → Dp K H' v d
  | _, _, .non => .non
  | _, _, .bl b => .bl b
  | _, _, .int i => .int i
  | _, _, .str x => .str x
  | _, _, .lst h r => .lst (sqL_mono e h) (dpa_mono e r)
  | _, _, .tup h r => .tup (sqT_mono e h) (dpa_mono e r)
theorem dpa_mono {K : Fg} {H H' : Hp} (e : Same H H') : ∀ {vs : List V} {ds : List D}, DpAll K H vs ds → DpAll K H' vs ds
  | _, _, .nil => .nil
  | _, _, .cons h r => .cons (dp_mono e h) (dpa_mono e r)
end
theorem kvR_mono {K : Fg} {F F' : Hp} {κ : Type} {kd : κ → D} (e : Same F F') : ∀ {kvs : List (κ × V)} {ds : List (D × D)}, KvR K F kd kvs ds → KvR K F' kd kvs ds
  | _, _, .nil => .nil
  | _, _, .cons h t => .cons (dp_mono e h) (kvR_mono e t)
theorem knR_mono {K : Fg} {F F' : Hp} (e : Same F F') : ∀ {xs : List NdX} {ds : List (D × D)}, KnR K F xs ds → KnR K F' xs ds
  | _, _, .nil => .nil
  | _, _, .cons h1 h2 h3 h4 t => .cons h1 h2 (dp_mono e h3) (dp_mono e h4) (knR_mono e t)
theorem dcR_mono {K : Fg} {F F' H H' : Hp} (e : Same F F') {n : Nat} {p : Addr} {dk : List (D × D)} (h : DcR K F H n p dk) (g : H' p = H p) : DcR K F' H' n p dk := by
  cases n with
  | zero =>
    obtain ⟨kvs, a, b⟩ := h
    exact ⟨kvs, g.trans a, kvR_mono e b⟩
  | succ n =>
    obtain ⟨xs, a, b⟩ := h
    exact ⟨xs, g.trans a, knR_mono e b⟩
theorem dcO_mono {K : Fg} {F F' H H' : Hp} (e : Same F F') {n : Nat} {v : V} {d : D} {fp : List Addr} (h : DcO K F H n v d fp) (g : ∀ q ∈ fp, H' q = H q) : DcO K F' H' n v d fp := by
  obtain ⟨p, dk, rfl, rfl, rfl, h⟩ := h
  exact ⟨p, dk, rfl, rfl, rfl, dcR_mono e h (g p (by simp))⟩
theorem FlO.imp {R R' : Str → OwR} : ∀ {vs : List (Str × V)} {ds : List (D × D)} {fs : List (List Addr)}, FlO R vs ds fs → (∀ f v d fp, fp ∈ fs → R f v d fp → R' f v d fp) → FlO R' vs ds fs
  | _, _, _, .nil, _ => .nil
  | _, _, _, .cons h t, g => .cons (g _ _ _ _ List.mem_cons_self h) (t.imp fun f v d fp hm => g f v d fp (List.mem_cons_of_mem _ hm))
theorem obO_mono {H H' : Hp} {R R' : Str → OwR} {cs : List (Str × Addr)} {v : V} {d : D} {fp : List Addr} (h : ObO H R cs v d fp) (g : ∀ q ∈ fp, H' q = H q) (hR : ∀ f v d fp', (∀ q ∈ fp', q ∈ fp) → R f v d fp' → R' f v d fp') : ObO H' R' cs v d fp := by
  rcases h with ⟨p, C, dx, cls, fs, ds, gs, rfl, rfl, h1, h2, h3, rfl, h4⟩ | ⟨hc, p, cls, fs, ds, gs, rfl, rfl, h1, rfl, h4⟩
  · refine .inl ⟨p, C, dx, cls, fs, ds, gs, rfl, rfl, by rw [g p (by simp)]; exact h1, by rw [g dx (by simp)]; exact h2, h3, rfl, h4.imp fun f v d fp hm hr => hR f v d fp (fun q hq => ?_) hr⟩
    exact List.mem_cons_of_mem _ (List.mem_cons_of_mem _ (List.mem_flatten.mpr ⟨fp, hm, hq⟩))
  · refine .inr ⟨hc, p, cls, fs, ds, gs, rfl, rfl, by rw [g p (by simp)]; exact h1, rfl, h4.imp fun f v d fp hm hr => hR f v d fp (fun q hq => ?_) hr⟩
    exact List.mem_cons_of_mem _ (List.mem_flatten.mpr ⟨fp, hm, hq⟩)
theorem tpO_mono {H H' : Hp} {R R' : TowR} {v : V} {d : D} {fp : List Addr} (h : TpO H R v d fp) (g : ∀ q ∈ fp, H' q = H q) (hR : ∀ xs ds fs, (∀ f ∈ fs, ∀ q ∈ f, q ∈ fp) → R xs ds fs → R' xs ds fs) : TpO H' R' v d fp := by
  obtain ⟨p, xs, ds, fs, rfl, rfl, hp, rfl, al⟩ := h
  exact ⟨p, xs, ds, fs, rfl, rfl, by rw [g p List.mem_cons_self]; exact hp, rfl, hR xs ds fs (fun f hf q hq => List.mem_cons_of_mem _ (List.mem_flatten.mpr ⟨f, hf, hq⟩)) al⟩
theorem ow_ex2 {K : Fg} {F : Hp} : ∀ (k : Kd) {H : Hp}, (∀ v d fp, (Ow2 K F H k).a v d fp → ∀ q ∈ fp, H q ≠ none) ∧ (∀ g v d fp, (Ow2 K F H k).f g v d fp → ∀ q ∈ fp, H q ≠ none) ∧ (∀ xs ds fs, (Ow2 K F H k).t xs ds fs → ∀ f ∈ fs, ∀ q ∈ f, H q ≠ none) := by
  intro k
  have sh : ∀ {H : Hp} v d fp, ShO K F v d fp → ∀ q ∈ fp, H q ≠ none := fun v d fp h q hq => by rw [h.1] at hq; cases hq
  have no : ∀ {H : Hp} (xs : List V) (ds : List D) (fs : List (List Addr)), False → ∀ f ∈ fs, ∀ q ∈ f, H q ≠ none := fun _ _ _ h => h.elim
  have fm : ∀ {R : Str → OwR} {vs : List (Str × V)} {ds : List (D × D)} {gs : List (List Addr)}, FlO R vs ds gs → ∀ g ∈ gs, ∃ f v d, R f v d g := fun h => by
    induction h with
    | nil => intro g hg; cases hg
    | cons p t ih =>
      intro g hg
      rcases List.mem_cons.mp hg with rfl | hg
      · exact ⟨_, _, _, p⟩
      · exact ih g hg
  have ob : ∀ {H : Hp} {R : Str → OwR} {cs' : List (Str × Addr)} {v : V} {d : D} {fp : List Addr}, (∀ f v d fp', R f v d fp' → ∀ q ∈ fp', H q ≠ none) → ObO H R cs' v d fp → ∀ q ∈ fp, H q ≠ none := by
    intro H R cs' v d fp hR h q hq
    rcases h with ⟨p, C, dx, cls, fs, ds, gs, rfl, rfl, h1, h2, h3, rfl, h4⟩ | ⟨hc, p, cls, fs, ds, gs, rfl, rfl, h1, rfl, h4⟩
    · rcases List.mem_cons.mp hq with rfl | hq
      · rw [h1]; simp
      · rcases List.mem_cons.mp hq with rfl | hq
        · rw [h2]; simp
        · obtain ⟨g, hg, hq⟩ := List.mem_flatten.mp hq
          obtain ⟨f, v, d, hr⟩ := fm h4 g hg
          exact hR f v d g hr q hq
    · rcases List.mem_cons.mp hq with rfl | hq
      · rw [h1]; simp
      · obtain ⟨g, hg, hq⟩ := List.mem_flatten.mp hq
        obtain ⟨f, v, d, hr⟩ := fm h4 g hg
        exact hR f v d g hr q hq
  have tp : ∀ {H : Hp} {R : TowR} {v : V} {d : D} {fp : List Addr}, (∀ xs ds fs, R xs ds fs → ∀ f ∈ fs, ∀ q ∈ f, H q ≠ none) → TpO H R v d fp → ∀ q ∈ fp, H q ≠ none := by
    intro H R v d fp hR h q hq
    obtain ⟨p, xs, ds, fs, rfl, rfl, hp, rfl, al⟩ := h
    rcases List.mem_cons.mp hq with rfl | hq
    · rw [hp]; simp
    · obtain ⟨g, hg, hq⟩ := List.mem_flatten.mp hq
      exact hR xs ds fs al g hg q hq
  induction k with
  | sh => intro H; exact ⟨sh, fun _ => sh, no⟩
  | ls k ih =>
    intro H
    refine ⟨fun v d fp h q hq => ?_, fun _ => sh, no⟩
    obtain ⟨p, xs, ds, fs, rfl, rfl, hp, rfl, al⟩ := h
    rcases List.mem_cons.mp hq with rfl | hq
    · rw [hp]; simp
    · obtain ⟨g, hg, hq⟩ := List.mem_flatten.mp hq
      have : ∀ {xs : List V} {ds : List D} {fs : List (List Addr)}, All3 (Ow2 K F H k).a xs ds fs → g ∈ fs → ∃ x y, (Ow2 K F H k).a x y g := fun al => by
        induction al with
        | nil => intro h; cases h
        | cons o _ ih2 =>
          intro h
          rcases List.mem_cons.mp h with rfl | h
          · exact ⟨_, _, o⟩
          · exact ih2 h
      obtain ⟨x, y, o⟩ := this al hg
      exact ih.1 x y g o q hq
  | pm k ih => intro H; exact ⟨ih.1, fun _ => sh, no⟩
  | dc n =>
    intro H
    refine ⟨fun v d fp h q hq => ?_, fun _ => sh, no⟩
    obtain ⟨p, dk, rfl, rfl, rfl, h⟩ := h
    obtain rfl : q = p := by simpa using hq
    cases n with
    | zero => obtain ⟨kvs, a, b⟩ := h; rw [a]; simp
    | succ n => obtain ⟨xs, a, b⟩ := h; rw [a]; simp
  | oe cs => intro H; exact ⟨fun v d fp h => ob (fun f => sh) h, fun _ => sh, no⟩
  | of f k r ih1 ih2 =>
    intro H
    have key : ∀ g v d fp, (if g = f then (Ow2 K F H k).a else (Ow2 K F H r).f g) v d fp → ∀ q ∈ fp, H q ≠ none := fun g v d fp h => by
      by_cases z : g = f
      · rw [if_pos z] at h; exact ih1.1 v d fp h
      · rw [if_neg z] at h; exact ih2.2.1 g v d fp h
    exact ⟨fun v d fp h => ob key h, key, no⟩
  | te => intro H; exact ⟨fun v d fp h => tp (fun xs ds fs z f hf => by obtain ⟨_, _, rfl⟩ := z; cases hf) h, fun _ => sh, fun xs ds fs z f hf => by obtain ⟨_, _, rfl⟩ := z; cases hf⟩
  | tc k r ih1 ih2 =>
    intro H
    have key : ∀ xs ds fs, TcR (Ow2 K F H k).a (Ow2 K F H r).t xs ds fs → ∀ f ∈ fs, ∀ q ∈ f, H q ≠ none := fun xs ds fs h f hf q hq => by
      obtain ⟨x, d, f0, xr, dr, fr, rfl, rfl, rfl, h1, h2⟩ := h
      rcases List.mem_cons.mp hf with rfl | hf
      · exact ih1.1 x d _ h1 q hq
      · exact ih2.2.2 xr dr fr h2 f hf q hq
    exact ⟨fun v d fp h => tp key h, fun _ => sh, key⟩
  | op k ih =>
    intro H
    refine ⟨fun v d fp h => ?_, fun _ => sh, no⟩
    rcases h with ⟨_, _, rfl⟩ | h
    · exact fun q hq => by cases hq
    · exact ih.1 v d fp h
  | xr a => intro H; exact ⟨fun v d fp h q hq => (by rw [h.2] at hq; cases hq), fun _ => sh, no⟩
  | hx a k ih =>
    intro H
    refine ⟨fun v d fp h => ?_, fun _ => sh, no⟩
    rcases h with ⟨_, _, rfl⟩ | h
    · exact fun q hq => by cases hq
    · exact ih.1 v d fp h
  | sd => intro H; exact ⟨fun v d fp h q hq => (by rw [h.1] at hq; cases hq), fun _ => sh, no⟩
  | sq k _ => intro H; exact ⟨fun v d fp h q hq => (by rw [h.1] at hq; cases hq), fun _ => sh, no⟩
  | «at» a k ih => intro H; exact ⟨fun v d fp h => ih.1 v d fp h.2, fun _ => sh, no⟩
theorem ow2_mono {K : Fg} {F F' : Hp} (e : Same F F') : ∀ (k : Kd) {H H' : Hp}, (∀ v d fp, (Ow2 K F H k).a v d fp → (∀ q ∈ fp, H' q = H q) → (Ow2 K F' H' k).a v d fp) ∧
    (∀ g v d fp, (Ow2 K F H k).f g v d fp → (∀ q ∈ fp, H' q = H q) → (Ow2 K F' H' k).f g v d fp) ∧ (Ow2 K F H k).c = (Ow2 K F' H' k).c ∧
    (∀ xs ds fs, (Ow2 K F H k).t xs ds fs → (∀ f ∈ fs, ∀ q ∈ f, H' q = H q) → (Ow2 K F' H' k).t xs ds fs) := by
  intro k
  have sh : ∀ {H H' : Hp} v d fp, ShO K F v d fp → (∀ q ∈ fp, H' q = H q) → ShO K F' v d fp := fun v d fp h _ => ⟨h.1, dp_mono e h.2⟩
  have no : ∀ {H H' : Hp} xs ds fs, False → (∀ f ∈ fs, ∀ q ∈ f, H' q = H q) → False := fun {_ _} (_ : List V) (_ : List D) (_ : List (List Addr)) h _ => h
  induction k with
  | sh => intro H H'; exact ⟨sh, fun _ => sh, rfl, no⟩
  | ls k ih =>
    intro H H'
    refine ⟨fun v d fp h g => ?_, fun _ => sh, rfl, no⟩
    obtain ⟨p, xs, ds, fs, rfl, rfl, hp, rfl, al⟩ := h
    exact ⟨p, xs, ds, fs, rfl, rfl, by rw [g p List.mem_cons_self]; exact hp, rfl, al.imp fun a b c hc q => ih.1 a b c q fun r hr => g r (List.mem_cons_of_mem _ (List.mem_flatten.mpr ⟨c, hc, hr⟩))⟩
  | pm k ih => intro H H'; exact ⟨ih.1, fun _ => sh, rfl, no⟩
  | dc n => intro H H'; exact ⟨fun v d fp h g => dcO_mono e h g, fun _ => sh, rfl, no⟩
  | oe cs => intro H H'; exact ⟨fun v d fp h g => obO_mono h g fun f v d fp' hs hr => sh v d fp' hr fun q hq => g q (hs q hq), fun _ => sh, rfl, no⟩
  | of f k r ih1 ih2 =>
    intro H H'
    have key : ∀ g v d fp, (if g = f then (Ow2 K F H k).a else (Ow2 K F H r).f g) v d fp → (∀ q ∈ fp, H' q = H q) → (if g = f then (Ow2 K F' H' k).a else (Ow2 K F' H' r).f g) v d fp := fun g v d fp h hq => by
      by_cases z : g = f
      · rw [if_pos z] at h ⊢; exact ih1.1 v d fp h hq
      · rw [if_neg z] at h ⊢; exact ih2.2.1 g v d fp h hq
    refine ⟨fun v d fp h g => ?_, key, ih2.2.2.1, no⟩
    have h' : ObO H (fun g => if g = f then (Ow2 K F H k).a else (Ow2 K F H r).f g) (Ow2 K F H r).c v d fp := h
    rw [ih2.2.2.1] at h'
    exact obO_mono h' g fun f v d fp' hs hr => key f v d fp' hr fun q hq => g q (hs q hq)
  | te => intro H H'; exact ⟨fun v d fp h g => tpO_mono h g fun _ _ _ _ z => z, fun _ => sh, rfl, fun _ _ _ z _ => z⟩
  | tc k r ih1 ih2 =>
    intro H H'
    have key : ∀ xs ds fs, TcR (Ow2 K F H k).a (Ow2 K F H r).t xs ds fs → (∀ f ∈ fs, ∀ q ∈ f, H' q = H q) → TcR (Ow2 K F' H' k).a (Ow2 K F' H' r).t xs ds fs := fun xs ds fs h g => by
      obtain ⟨x, d, f, xr, dr, fr, rfl, rfl, rfl, h1, h2⟩ := h
      exact ⟨x, d, f, xr, dr, fr, rfl, rfl, rfl, ih1.1 x d f h1 (g f (by simp)), ih2.2.2.2 xr dr fr h2 fun f' hf => g f' (by simp [hf])⟩
    exact ⟨fun v d fp h g => tpO_mono h g fun xs ds fs hs z => key xs ds fs z fun f hf q hq => g q (hs f hf q hq), fun _ => sh, rfl, key⟩
  | op k ih => intro H H'; exact ⟨fun v d fp h g => h.imp id fun z => ih.1 v d fp z g, fun _ => sh, rfl, no⟩
  | xr a => intro H H'; exact ⟨fun v d fp h _ => h, fun _ => sh, rfl, no⟩
  | hx a k ih => intro H H'; exact ⟨fun v d fp h g => h.imp id fun z => ih.1 v d fp z g, fun _ => sh, rfl, no⟩
  | sq k ih =>
    intro H H'
    refine ⟨fun v d fp h _ => ⟨h.1, ?_⟩, fun _ => sh, rfl, no⟩
    obtain ⟨_, fp', h⟩ := h
    refine ⟨fp', (ih (H := F) (H' := F')).1 v d fp' h fun q hq => ?_⟩
    cases z : F q with
    | none => exact absurd z ((ow_ex2 k).1 v d fp' h q hq)
    | some o => exact e q o z
  | «at» a k ih => intro H H'; exact ⟨fun v d fp h g => ⟨h.1, ih.1 v d fp h.2 g⟩, fun _ => sh, rfl, no⟩
  | sd => intro H H'; exact ⟨fun v d fp h _ => ⟨h.1, h.2.imp fun p h => h.imp fun dk h => h.imp fun o h => h.imp fun kvs h => ⟨h.1, h.2.1, e _ _ h.2.2.1, kvR_mono e h.2.2.2⟩⟩, fun _ => sh, rfl, no⟩
theorem ow_mono {K : Fg} {F F' H H' : Hp} (e : Same F F') {k : Kd} {v : V} {d : D} {fp : List Addr} (h : Ow K F H k v d fp) (g : ∀ q ∈ fp, H' q = H q) : Ow K F' H' k v d fp := (ow2_mono e k).1 v d fp h g
def unh : Kd → Kd
  | .ls k => .ls (unh k)
  | .of f k r => .of f (unh k) (unh r)
  | .tc k r => .tc (unh k) (unh r)
  | .op k => .op (unh k)
  | .hx _ k => unh k
  | k => k
def isPm : Option Kd → Bool
  | some (.pm _) => true
  | _ => false
structure Ctx where
  F0 : Hp
  H0 : Hp
  /-- the own things of the slots that are pinned -/
  ow : Nat → Addr → Prop
  /-- the parameters' kinds; further slots that are pinned -/
  ps : List Kd × List Nat
  /-- the slots that hold what was handed in, all through: their kinds -/
  pk : Nat → Option Kd
  rk : Kd
  arg : Nat → V
  /-- the module's names; what is wished of an exception; the holds at which one may be raised -/
  mg : Str → Option Value
  W : WX
  Ox : Option (List Kd)
  /-- things may be taken out of parameters meanwhile -/
  hx : Bool
def Ctx.own (c : Ctx) (b : Addr) : Prop := ∃ i, c.ow i b
def Ctx.isP (c : Ctx) (i : Nat) : Prop := c.ps.1[i]?.isSome = true ∨ i ∈ c.ps.2
structure Xc where
  c : Str
  fs : List (Str × D)
structure Rel (K : Fg) (c : Ctx) (O : List Kd) (F H : Hp) (σ : St) (fps : Nat → List Addr) (ds : DS) : Prop where
  sub : Same F H
  base : Same c.F0 F
  keep : ∀ b o, c.H0 b = some o → ¬ c.own b → H b = some o
  live : ∀ b, H b = none → c.H0 b = none
  new : ∀ b o, F b = some o → c.F0 b = some o ∨ c.H0 b = none
  slots : ∀ i d, ds[i]? = some (some d) → ∃ v, σ[i]? = some (some v) ∧ Ow K F H (O.getD i .sh) v d (fps i)
  off : ∀ i q, q ∈ fps i → F q = none ∧ H q ≠ none ∧ (c.H0 q = none ∨ (c.ow i q ∧ isPm O[i]? = true))
  nd : ∀ i, (fps i).Nodup
  dj : ∀ i j, i ≠ j → ∀ q, q ∈ fps i → q ∉ fps j
  par : ∀ i k, c.pk i = some k → (∃ k', O[i]? = some (.pm k') ∧ (k' = k ∨ (c.hx = true ∧ unh k' = k))) ∧ σ[i]? = some (some (c.arg i))
  len : σ.length = ds.length
inductive R (α : Type) where
  | ok (a : α) (s : DS)
  | no
abbrev M (α : Type) := DS → R α
inductive RS where
  | nx (s : DS)
  | rt (d : D) (s : DS)
  | bk (s : DS)
  | ct (s : DS)
  | ex (x : Xc) (s : DS)
  | no
abbrev MS := DS → RS
structure DE (K : Fg) (c : Ctx) (O : List Kd) (t : TE) (m : M D) : Prop where
  run : ∀ {F H : Hp} {σ : St} {fps : Nat → List Addr} {ds ds' : DS} {d : D}, Rel K c O F H σ fps ds → m ds = .ok d ds' → ∀ Q : VK,
    (∀ F' H' fps' v, Same F F' → Rel K c O F' H' σ fps' ds' → Dp K F' v d → Q v H') → t σ H Q
structure DT (K : Fg) (c : Ctx) (O : List Kd) (t : TT) (m : M Bool) : Prop where
  run : ∀ {F H : Hp} {σ : St} {fps : Nat → List Addr} {ds ds' : DS} {b : Bool}, Rel K c O F H σ fps ds → m ds = .ok b ds' → ∀ Q : Bool → Hp → Prop,
    (∀ F' H' fps', Same F F' → Rel K c O F' H' σ fps' ds' → Q b H') → t σ H Q
structure DA (K : Fg) (c : Ctx) (O : List Kd) (t : TA) (m : M (List D)) : Prop where
  run : ∀ {F H : Hp} {σ : St} {fps : Nat → List Addr} {ds ds' : DS} {es : List D}, Rel K c O F H σ fps ds → m ds = .ok es ds' → ∀ Q : List V → Hp → Prop,
    (∀ F' H' fps' vs, Same F F' → Rel K c O F' H' σ fps' ds' → DpAll K F' vs es → Q vs H') → t σ H Q
structure DO (K : Fg) (c : Ctx) (O : List Kd) (k : Kd) (t : TE) (m : M D) : Prop where
  run : ∀ {F H : Hp} {σ : St} {fps : Nat → List Addr} {ds ds' : DS} {d : D}, Rel K c O F H σ fps ds → m ds = .ok d ds' → ∀ Q : VK,
    (∀ F' H' fps' v fpv, Same F F' → Rel K c O F' H' σ fps' ds' → Ow K F' H' k v d fpv → (∀ q ∈ fpv, F' q = none ∧ H' q ≠ none ∧ c.H0 q = none ∧ ∀ i, q ∉ fps' i) → fpv.Nodup → Q v H') → t σ H Q
inductive FsR (K : Fg) (F : Hp) : List (Str × V) → List (Str × D) → Prop
  | nil : FsR K F [] []
  | cons {f v d vs ds} : Dp K F v d → FsR K F vs ds → FsR K F ((f, v) :: vs) ((f, d) :: ds)
def ExOk (K : Fg) (mg : Str → Option Value) (F : Hp) (x : Xc) (cls : Value) (dd : Option Addr) : Prop :=
  mg x.c = some cls ∧ ((x.fs = [] ∧ dd = none) ∨ ∃ d ws, dd = some d ∧ F d = some (.xd ws) ∧ FsR K F ws x.fs ∧ x.fs ≠ [])
def Post (K : Fg) (c : Ctx) (Ob O' : List Kd) (F : Hp) (E : Ends) : RS → Prop
  | .nx ds' => ∀ F' H' σ' fps', Same F F' → Rel K c O' F' H' σ' fps' ds' → E.nx σ' H'
  | .bk ds' => ∀ F' H' σ' fps', Same F F' → Rel K c Ob F' H' σ' fps' ds' → E.bk σ' H'
  | .ct ds' => ∀ F' H' σ' fps', Same F F' → Rel K c Ob F' H' σ' fps' ds' → E.ct σ' H'
  | .rt d ds' => ∀ F' H' σ' fps' O'' v fpv, Same F F' → Rel K c O'' F' H' σ' fps' ds' → Ow K F' H' c.rk v d fpv → (∀ q ∈ fpv, F' q = none ∧ H' q ≠ none ∧ c.H0 q = none ∧ ∀ i, c.isP i → q ∉ fps' i) → fpv.Nodup → E.rt v H'
  | .ex x ds' => ∀ F' H' σ' fps' O'' cls dd, (∀ o, c.Ox = some o → O'' = o) → Same F F' → Rel K c O'' F' H' σ' fps' ds' → ExOk K c.mg F' x cls dd → c.W cls dd σ' H'
  | .no => False
structure DC (K : Fg) (c : Ctx) (Ob O : List Kd) (t : TS) (m : MS) (O' : List Kd) : Prop where
  run : ∀ {F H : Hp} {σ : St} {fps : Nat → List Addr} {ds : DS}, Rel K c O F H σ fps ds → ∀ E : Ends, Post K c Ob O' F E (m ds) → t E σ H
end Z
set_option Elab.async false
set_option linter.all false
set_option maxRecDepth 100000
namespace Z
open PySem L2
section
variable {K : Fg} {c : Ctx} {O : List Kd} {F H : Hp} {σ : St} {fps : Nat → List Addr} {ds : DS}
theorem Rel.fresh (r : Rel K c O F H σ fps ds) {p : Addr} (h : H p = none) : F p = none ∧ c.H0 p = none ∧ ∀ i, p ∉ fps i :=
  ⟨r.sub.free h, r.live p h, fun i hi => (r.off i p hi).2.1 h⟩
theorem same_upd {F : Hp} {p : Addr} {o : HO} (h : F p = none) : Same F (upd F p o) := fun b u e => by rw [upd_ne (ne_of_none e h)]; exact e
theorem Rel.alloc (r : Rel K c O F H σ fps ds) {p : Addr} (h : H p = none) (o : HO) : Rel K c O (upd F p o) (upd H p o) σ fps ds := by
  obtain ⟨hF, h0, hq⟩ := r.fresh h
  have sF : Same F (upd F p o) := same_upd hF
  refine ⟨fun b u e => ?_, r.base.trans sF, fun b u e n => ?_, fun b e => ?_, fun b u e => ?_, fun i d e => ?_, fun i q hqi => ?_, r.nd, r.dj, r.par, r.len⟩
  · by_cases hb : b = p
    · subst hb; rw [upd_same] at e ⊢; exact e
    · rw [upd_ne hb] at e ⊢; exact r.sub b u e
  · have hb : b ≠ p := fun z => by subst z; rw [h0] at e; cases e
    rw [upd_ne hb]; exact r.keep b u e n
  · by_cases hb : b = p
    · subst hb; rw [upd_same] at e; cases e
    · rw [upd_ne hb] at e; exact r.live b e
  · by_cases hb : b = p
    · subst hb; exact .inr h0
    · rw [upd_ne hb] at e; exact r.new b u e
  · obtain ⟨v, hv, ho⟩ := r.slots i d e
    exact ⟨v, hv, ow_mono sF ho fun q hq' => upd_ne fun z => by subst z; exact hq i hq'⟩
  · obtain ⟨a, b, cc⟩ := r.off i q hqi
    have hb : q ≠ p := fun z => by subst z; exact hq i hqi
    rw [upd_ne hb, upd_ne hb]; exact ⟨a, b, cc⟩
theorem Rel.allocO (r : Rel K c O F H σ fps ds) {p : Addr} (h : H p = none) (o : HO) : Rel K c O F (upd H p o) σ fps ds := by
  obtain ⟨hF, h0, hq⟩ := r.fresh h
  refine ⟨fun b u e => ?_, r.base, fun b u e n => ?_, fun b e => ?_, r.new, fun i d e => ?_, fun i q hqi => ?_, r.nd, r.dj, r.par, r.len⟩
  · rw [upd_ne (ne_of_none e hF)]; exact r.sub b u e
  · have hb : b ≠ p := fun z => by subst z; rw [h0] at e; cases e
    rw [upd_ne hb]; exact r.keep b u e n
  · by_cases hb : b = p
    · subst hb; rw [upd_same] at e; cases e
    · rw [upd_ne hb] at e; exact r.live b e
  · obtain ⟨v, hv, ho⟩ := r.slots i d e
    exact ⟨v, hv, ow_mono (Same.refl _) ho fun q hq' => upd_ne fun z => by subst z; exact hq i hq'⟩
  · obtain ⟨a, b, cc⟩ := r.off i q hqi
    have hb : q ≠ p := fun z => by subst z; exact hq i hqi
    rw [upd_ne hb]; exact ⟨a, b, cc⟩
theorem Rel.get (r : Rel K c O F H σ fps ds) {i : Nat} {d : D} (h : ds[i]? = some (some d)) : ∃ v, σ[i]? = some (some v) ∧ Ow K F H (O.getD i .sh) v d (fps i) := r.slots i d h
theorem getD_set_ne {O : List Kd} {i j : Nat} {k : Kd} (h : j ≠ i) : (O.set i k).getD j .sh = O.getD j .sh := by
  simp only [List.getD_eq_getElem?_getD]
  rw [List.getElem?_set_ne (Ne.symm h)]
theorem getD_set_eq {O : List Kd} {i : Nat} {k : Kd} (h : i < O.length) : (O.set i k).getD i .sh = k := by
  simp only [List.getD_eq_getElem?_getD]
  rw [List.getElem?_set_self h]; rfl
theorem Rel.put (r : Rel K c O F H σ fps ds) {i : Nat} {k : Kd} {v : V} {d : D} {fpv : List Addr} (hi : i < O.length) (hp : isPm O[i]? = false) (ho : Ow K F H k v d fpv)
    (hf : ∀ q ∈ fpv, F q = none ∧ H q ≠ none ∧ c.H0 q = none ∧ ∀ j, j ≠ i → q ∉ fps j) (nd : fpv.Nodup) :
    Rel K c (O.set i k) F H (σ.set i (some v)) (fun j => if j = i then fpv else fps j) (ds.set i (some d)) := by
  have hne : ∀ j k', c.pk j = some k' → j ≠ i := fun j k' h z => by
    subst z
    obtain ⟨k2, hk2, _⟩ := (r.par j k' h).1
    rw [hk2] at hp
    exact absurd hp (by simp [isPm])
  refine ⟨r.sub, r.base, r.keep, r.live, r.new, fun j e hj => ?_, fun j q hq => ?_, fun j => ?_, fun j l hjl q hq hq' => ?_, fun j k' h => ?_, by rw [List.length_set, List.length_set]; exact r.len⟩
  · by_cases z : j = i
    · subst z
      have hl : j < ds.length := by
        cases Nat.lt_or_ge j ds.length with
        | inl h => exact h
        | inr h => rw [List.getElem?_eq_none (by rw [List.length_set]; exact h)] at hj; cases hj
      rw [List.getElem?_set_self hl] at hj
      have e' : e = d := (Option.some.inj (Option.some.inj hj)).symm
      subst e'
      refine ⟨v, by rw [List.getElem?_set_self (by rw [r.len]; exact hl)], ?_⟩
      rw [getD_set_eq hi]
      simp only [if_pos]
      exact ho
    · rw [List.getElem?_set_ne (Ne.symm z)] at hj
      obtain ⟨u, hu, w⟩ := r.slots j e hj
      refine ⟨u, by rw [List.getElem?_set_ne (Ne.symm z)]; exact hu, ?_⟩
      rw [getD_set_ne z]
      simp only [if_neg z]
      exact w
  · by_cases z : j = i
    · simp only [z, if_pos] at hq
      obtain ⟨a, b, c', _⟩ := hf q hq
      exact ⟨a, b, .inl c'⟩
    · simp only [if_neg z] at hq
      rw [List.getElem?_set_ne (Ne.symm z)]
      exact r.off j q hq
  · by_cases z : j = i
    · simp only [z, if_pos]; exact nd
    · simp only [if_neg z]; exact r.nd j
  · by_cases z : j = i
    · by_cases z' : l = i
      · exact hjl (z.trans z'.symm)
      · simp only [z, if_pos] at hq
        simp only [if_neg z'] at hq'
        exact (hf q hq).2.2.2 l z' hq'
    · simp only [if_neg z] at hq
      by_cases z' : l = i
      · simp only [z', if_pos] at hq'
        exact (hf q hq').2.2.2 j z hq
      · simp only [if_neg z'] at hq'
        exact r.dj j l hjl q hq hq'
  · have h' := hne j k' h
    obtain ⟨a, b⟩ := r.par j k' h
    exact ⟨by rw [List.getElem?_set_ne (Ne.symm h')]; exact a, by rw [List.getElem?_set_ne (Ne.symm h')]; exact b⟩
end
end Z
set_option Elab.async false
set_option linter.all false
set_option maxRecDepth 100000
namespace Z
open PySem L2
def bnd {α β : Type} (m : M α) (f : α → M β) : M β := fun s => match m s with
  | .ok a s' => f a s'
  | .no => .no
def opt {α : Type} (o : Option α) : M α := fun s => match o with
  | some a => .ok a s
  | none => .no
inductive BR where
  | val (d : D)
  | slot (i : Nat)
def res (s : DS) : BR → Option D
  | .val d => some d
  | .slot i => match s[i]? with
    | some (some d) => some d
    | _ => none
def mV (m : M D) : M BR := bnd m fun d s => .ok (.val d) s
def mSlot (i : Nat) : M BR := fun s => match s[i]? with
  | some (some _) => .ok (.slot i) s
  | _ => .no
def mVar (i : Nat) : M D := fun s => match s[i]? with
  | some (some d) => .ok d s
  | _ => .no
def mC (d : D) : M D := fun s => .ok d s
def mOp (f : D → D → Option D) (a b : M BR) : M D := bnd a fun x => bnd b fun y => fun s => match res s x, res s y with
  | some dx, some dy => opt (f dx dy) s
  | _, _ => .no
def mUn (f : D → Option D) (a : M BR) : M D := bnd a fun x => fun s => match res s x with
  | some dx => opt (f dx) s
  | none => .no
def tru : D → Option Bool
  | .bool b => some b
  | _ => none
def mB (m : M D) : M Bool := bnd m fun d => opt (tru d)
def mAnd (a b : M Bool) : M Bool := bnd a fun x => match x with
  | true => b
  | false => fun s => .ok false s
def mOr (a b : M Bool) : M Bool := bnd a fun x => match x with
  | true => fun s => .ok true s
  | false => b
def mNot (a : M Bool) : M Bool := bnd a fun x => fun s => .ok (!x) s
def mAndV (a b : M D) : M D := bnd (mB a) fun x => match x with
  | true => b
  | false => fun s => .ok (.bool false) s
def mOrV (a b : M D) : M D := bnd (mB a) fun x => match x with
  | true => fun s => .ok (.bool true) s
  | false => b
def mNotV (a : M D) : M D := bnd (mB a) fun x => fun s => .ok (.bool (!x)) s
def mIf (t : M Bool) (a b : M D) : M D := bnd t fun x => match x with
  | true => a
  | false => b
def mChain (f g : D → D → Option D) (a b c : M D) : M D := bnd a fun x => bnd b fun y => bnd (opt (f x y)) fun z => match z with
  | .bool true => bnd c fun w => opt (g y w)
  | .bool false => fun s => .ok (.bool false) s
  | _ => fun _ => .no
def mNil : M (List D) := fun s => .ok [] s
def mCons (a : M D) (r : M (List D)) : M (List D) := bnd a fun x => bnd r fun xs => fun s => .ok (x :: xs) s
def mNilB : M (List BR) := fun s => .ok [] s
def mConsB (a : M BR) (r : M (List BR)) : M (List BR) := bnd a fun x => bnd r fun xs => fun s => .ok (x :: xs) s
def fits (n : Nat) : Bool := decide (n ≤ sizeLine)
def mTup (a : M (List D)) : M D := bnd a fun xs => opt (if fits xs.length then some (.tuple xs) else none)
def mLst (a : M (List D)) : M D := bnd a fun xs => opt (if fits xs.length then some (.list xs) else none)
def mB1 (f : List D → Option D) (a : M (List BR)) : M D := bnd a fun xs => fun s => match xs.mapM (res s) with
  | some ds => opt (f ds) s
  | none => .no
def Sc : V → D → Prop
  | .non, .none => True
  | .bl b, .bool c => b = c
  | .int i, .int j => i = j
  | .str x, .str y => x = y
  | _, _ => False
theorem Sc.dp {K : Fg} {F : Hp} : ∀ {v : V} {d : D}, Sc v d → Dp K F v d := by
  intro v d h
  cases v <;> cases d <;> first | exact h.elim | skip
  · exact .non
  · cases h; exact .bl _
  · cases h; exact .int _
  · cases h; exact .str _
def Vw (K : Fg) (F H : Hp) (v : V) (d : D) : Prop := Dp K F v d ∨ ∃ p xs ds, v = .ref p ∧ d = .list ds ∧ H p = some (.lst xs) ∧ DpAll K F xs ds
theorem Vw.dp {K : Fg} {F H : Hp} {v : V} {d : D} (h : Vw K F H v d) (s : Same F H) : Dp K H v d := by
  rcases h with h | ⟨p, xs, ds, rfl, rfl, hp, al⟩
  · exact dp_mono s h
  · exact .lst (SqL.of hp) (dpa_mono s al)
theorem Vw.lst {K : Fg} {F H : Hp} {v : V} {ds : List D} (h : Vw K F H v (.list ds)) (s : Same F H) : ∃ p xs, v = .ref p ∧ SqL K H p xs ∧ DpAll K F xs ds := by
  rcases h with h | ⟨p, xs, ds', rfl, e, hp, al⟩
  · cases h with
    | lst h r => exact ⟨_, _, rfl, sqL_mono s h, r⟩
  · cases e; exact ⟨p, xs, rfl, SqL.of hp, al⟩
theorem Vw.tup {K : Fg} {F H : Hp} {v : V} {ds : List D} (h : Vw K F H v (.tuple ds)) (s : Same F H) : ∃ p xs, v = .ref p ∧ SqT K H p xs ∧ DpAll K F xs ds := by
  rcases h with h | ⟨p, xs, ds', rfl, e, hp, al⟩
  · cases h with
    | tup h r => exact ⟨_, _, rfl, sqT_mono s h, r⟩
  · cases e
theorem Vw.int {K : Fg} {F H : Hp} {v : V} {i : Int} (h : Vw K F H v (.int i)) : v = .int i := by
  rcases h with h | ⟨p, xs, ds', rfl, e, hp, al⟩
  · cases h; rfl
  · cases e
theorem Vw.bl {K : Fg} {F H : Hp} {v : V} {i : Bool} (h : Vw K F H v (.bool i)) : v = .bl i := by
  rcases h with h | ⟨p, xs, ds', rfl, e, hp, al⟩
  · cases h; rfl
  · cases e
theorem Vw.str {K : Fg} {F H : Hp} {v : V} {i : Str} (h : Vw K F H v (.str i)) : v = .str i := by
  rcases h with h | ⟨p, xs, ds', rfl, e, hp, al⟩
  · cases h; rfl
  · cases e
theorem Vw.non {K : Fg} {F H : Hp} {v : V} (h : Vw K F H v .none) : v = .non := by
  rcases h with h | ⟨p, xs, ds', rfl, e, hp, al⟩
  · cases h; rfl
  · cases e
theorem dpa_len {K : Fg} {F : Hp} : ∀ {vs : List V} {ds : List D}, DpAll K F vs ds → vs.length = ds.length
  | _, _, .nil => rfl
  | _, _, .cons _ r => by simp only [List.length_cons, dpa_len r]
theorem dpa_get {K : Fg} {F : Hp} : ∀ {vs : List V} {ds : List D} {i : Nat} {d : D}, DpAll K F vs ds → ds[i]? = some d → ∃ v, vs[i]? = some v ∧ Dp K F v d
  | _, _, _, _, .nil, e => by simp at e
  | _, _, 0, _, .cons h _, e => by simp at e; subst e; exact ⟨_, rfl, h⟩
  | _, _, i + 1, d, .cons _ t, e => by
    obtain ⟨u, h1, h2⟩ := dpa_get (i := i) (d := d) t (by simpa using e)
    exact ⟨u, by simpa using h1, h2⟩
theorem dpa_append {K : Fg} {F : Hp} : ∀ {vs ws : List V} {ds es : List D}, DpAll K F vs ds → DpAll K F ws es → DpAll K F (vs ++ ws) (ds ++ es)
  | _, _, _, _, .nil, s => s
  | _, _, _, _, .cons r t, s => .cons r (dpa_append t s)
theorem dpa_take {K : Fg} {F : Hp} : ∀ {vs : List V} {ds : List D} (n : Nat), DpAll K F vs ds → DpAll K F (vs.take n) (ds.take n)
  | _, _, 0, _ => .nil
  | _, _, _ + 1, .nil => .nil
  | _, _, n + 1, .cons r t => .cons r (dpa_take n t)
theorem dpa_drop {K : Fg} {F : Hp} : ∀ {vs : List V} {ds : List D} (n : Nat), DpAll K F vs ds → DpAll K F (vs.drop n) (ds.drop n)
  | _, _, 0, r => r
  | _, _, _ + 1, .nil => .nil
  | _, _, n + 1, .cons _ t => dpa_drop n t
theorem dpa_set {K : Fg} {F : Hp} {v : V} {d : D} (h : Dp K F v d) : ∀ {vs : List V} {ds : List D} (n : Nat), DpAll K F vs ds → DpAll K F (vs.set n v) (ds.set n d)
  | _, _, _, .nil => .nil
  | _, _, 0, .cons _ t => .cons h t
  | _, _, n + 1, .cons r t => .cons r (dpa_set h n t)
inductive Grow (F H : Hp) : Hp → Hp → Prop
  | refl : Grow F H F H
  | new {p : Addr} (o : HO) : H p = none → Grow F H (upd F p o) (upd H p o)
  | new2 {p q : Addr} (o u : HO) : H p = none → upd H p o q = none → Grow F H (upd (upd F p o) q u) (upd (upd H p o) q u)
section
variable {K : Fg} {c : Ctx} {O : List Kd} {F F' H H' : Hp} {σ : St} {fps : Nat → List Addr} {ds : DS}
theorem Grow.rel (g : Grow F H F' H') (r : Rel K c O F H σ fps ds) : Rel K c O F' H' σ fps ds ∧ Same F F' := by
  cases g with
  | refl => exact ⟨r, Same.refl _⟩
  | new o h => exact ⟨r.alloc h o, same_upd (r.fresh h).1⟩
  | new2 o u h h2 => exact ⟨(r.alloc h o).alloc h2 u, (same_upd (r.fresh h).1).trans (same_upd ((r.alloc h o).fresh h2).1)⟩
def lsish : Kd → Bool
  | .ls .sh => true
  | .pm (.ls .sh) => true
  | _ => false
def Bm (K : Fg) (O : List Kd) (F : Hp) (σ : St) (v : V) : BR → Prop
  | .val d => Dp K F v d
  | .slot i => σ[i]? = some (some v) ∧ lsish (O.getD i .sh) = true
theorem all3_sh {xs : List V} {ds : List D} {fs : List (List Addr)} (h : All3 (Ow K F H .sh) xs ds fs) : DpAll K F xs ds ∧ fs.flatten = [] := by
  induction h with
  | nil => exact ⟨.nil, rfl⟩
  | cons h _ ih =>
    obtain ⟨e, h⟩ := h
    subst e
    exact ⟨.cons h ih.1, by simpa using ih.2⟩
theorem ow_ls {v : V} {d : D} {fp : List Addr} {k : Kd} (hk : lsish k = true) (h : Ow K F H k v d fp) : ∃ p xs ds, v = .ref p ∧ d = .list ds ∧ H p = some (.lst xs) ∧ fp = [p] ∧ DpAll K F xs ds := by
  have : Ow K F H (.ls .sh) v d fp := by
    unfold lsish at hk
    split at hk
    · exact h
    · exact h
    · cases hk
  obtain ⟨p, xs, ds, fs, rfl, rfl, hp, rfl, al⟩ := this
  obtain ⟨a, b⟩ := all3_sh al
  exact ⟨p, xs, ds, rfl, rfl, hp, by rw [b], a⟩
theorem ls_ow {p : Addr} {xs : List V} {ds : List D} (hp : H p = some (.lst xs)) (al : DpAll K F xs ds) : Ow K F H (.ls .sh) (.ref p) (.list ds) [p] := by
  have : ∃ fs : List (List Addr), fs.flatten = [] ∧ All3 (Ow K F H .sh) xs ds fs := by
    clear hp
    induction al using DpAll.rec (motive_1 := fun _ _ _ => True) with
    | nil => exact ⟨[], rfl, .nil⟩
    | cons h _ _ ih =>
      obtain ⟨fs, e, a⟩ := ih
      exact ⟨[] :: fs, by simpa using e, .cons ⟨rfl, h⟩ a⟩
    | _ => trivial
  obtain ⟨fs, e, a⟩ := this
  exact ⟨p, xs, ds, fs, rfl, rfl, hp, by rw [e], a⟩
theorem Bm.vw {br : BR} {v : V} {d : D} (r : Rel K c O F H σ fps ds) (b : Bm K O F σ v br) (e : res ds br = some d) : Vw K F H v d := by
  cases br with
  | val d' => cases e; exact .inl b
  | slot i =>
    unfold res at e
    simp only at e
    split at e
    · rename_i d' he
      cases e
      obtain ⟨u, hu, ow⟩ := r.slots i _ he
      rw [b.1] at hu
      cases hu
      obtain ⟨p, xs, ds', e1, e2, hp, _, al⟩ := ow_ls b.2 ow
      exact .inr ⟨p, xs, ds', e1, e2, hp, al⟩
    · cases e
theorem Bm.mono {br : BR} {v : V} (s : Same F F') (b : Bm K O F σ v br) : Bm K O F' σ v br := by
  cases br with
  | val d => exact dp_mono s b
  | slot i => exact b
end
structure DB (K : Fg) (c : Ctx) (O : List Kd) (t : TE) (m : M BR) : Prop where
  run : ∀ {F H : Hp} {σ : St} {fps : Nat → List Addr} {ds ds' : DS} {b : BR}, Rel K c O F H σ fps ds → m ds = .ok b ds' → ∀ Q : VK,
    (∀ F' H' fps' v, Same F F' → Rel K c O F' H' σ fps' ds' → Bm K O F' σ v b → Q v H') → t σ H Q
inductive BmA (K : Fg) (O : List Kd) (F : Hp) (σ : St) : List V → List BR → Prop
  | nil : BmA K O F σ [] []
  | cons {v b vs bs} : Bm K O F σ v b → BmA K O F σ vs bs → BmA K O F σ (v :: vs) (b :: bs)
structure DAB (K : Fg) (c : Ctx) (O : List Kd) (t : TA) (m : M (List BR)) : Prop where
  run : ∀ {F H : Hp} {σ : St} {fps : Nat → List Addr} {ds ds' : DS} {es : List BR}, Rel K c O F H σ fps ds → m ds = .ok es ds' → ∀ Q : List V → Hp → Prop,
    (∀ F' H' fps' vs, Same F F' → Rel K c O F' H' σ fps' ds' → BmA K O F' σ vs es → Q vs H') → t σ H Q
def OpG (K : Fg) (r : R2) (f : D → D → Option D) : Prop := ∀ (F H : Hp) (x y : V) (dx dy d : D), Same F H → Vw K F H x dx → Vw K F H y dy → f dx dy = some d → ∀ Q : VK, (∀ F' H' v, Grow F H F' H' → Dp K F' v d → Q v H') → r x y H Q
def UnG (K : Fg) (r : V → Hp → VK → Prop) (f : D → Option D) : Prop := ∀ (F H : Hp) (x : V) (dx d : D), Same F H → Vw K F H x dx → f dx = some d → ∀ Q : VK, (∀ F' H' v, Grow F H F' H' → Dp K F' v d → Q v H') → r x H Q
inductive VwA (K : Fg) (F H : Hp) : List V → List D → Prop
  | nil : VwA K F H [] []
  | cons {v d vs ds} : Vw K F H v d → VwA K F H vs ds → VwA K F H (v :: vs) (d :: ds)
def CaG (K : Fg) (r : List V → Hp → VK → Prop) (f : List D → Option D) : Prop := ∀ (F H : Hp) (xs : List V) (es : List D) (d : D), Same F H → VwA K F H xs es → f es = some d → ∀ Q : VK, (∀ F' H' v, Grow F H F' H' → Dp K F' v d → Q v H') → r xs H Q
theorem bnd_ok {α β : Type} {m : M α} {f : α → M β} {s s' : DS} {b : β} (h : bnd m f s = .ok b s') : ∃ a s1, m s = .ok a s1 ∧ f a s1 = .ok b s' := by
  unfold bnd at h
  cases e : m s with
  | ok a s1 => rw [e] at h; exact ⟨a, s1, rfl, h⟩
  | no => rw [e] at h; cases h
theorem opt_ok {α : Type} {o : Option α} {s s' : DS} {a : α} (h : opt o s = .ok a s') : o = some a ∧ s' = s := by
  unfold opt at h
  cases o with
  | none => cases h
  | some b => cases h; exact ⟨rfl, rfl⟩
section
variable {K : Fg} {c : Ctx} {O : List Kd} {ta tb tc te : TE} {tt tu : TT} {ma mb mc : M D} {m1 m2 : M Bool} {b1 b2 : M BR}
theorem DE.b (h : DE K c O ta ma) : DB K c O ta (mV ma) := ⟨fun {F H σ fps ds ds' b} r e Q q => by
  obtain ⟨d, s1, e1, e2⟩ := bnd_ok e
  cases e2
  exact h.run r e1 Q fun F' H' fps' v s r' dp => q F' H' fps' v s r' dp⟩
theorem d_var (i : Nat) (hk : O.getD i .sh = .sh := by rfl) : DE K c O (tVar i) (mVar i) := ⟨fun {F H σ fps ds ds' d} r e Q q => by
  unfold mVar at e
  split at e
  · rename_i d' he
    cases e
    obtain ⟨v, hv, ow⟩ := r.slots i _ he
    rw [hk] at ow
    exact ⟨v, hv, q F H fps v (Same.refl _) r ow.2⟩
  · cases e⟩
theorem d_slot (i : Nat) (hk : lsish (O.getD i .sh) = true := by rfl) : DB K c O (tVar i) (mSlot i) := ⟨fun {F H σ fps ds ds' b} r e Q q => by
  unfold mSlot at e
  split at e
  · rename_i d' he
    cases e
    obtain ⟨v, hv, ow⟩ := r.slots i _ he
    exact ⟨v, hv, q F H fps v (Same.refl _) r ⟨hv, hk⟩⟩
  · cases e⟩
theorem d_C {v : V} {d : D} (h : Sc v d) : DE K c O (tC v) (mC d) := ⟨fun r e Q q => by
  cases e
  exact q _ _ _ v (Same.refl _) r h.dp⟩
theorem d_int {i : Int} : DE K c O (tC (.int i)) (mC (.int i)) := d_C rfl
theorem d_bl {i : Bool} : DE K c O (tC (.bl i)) (mC (.bool i)) := d_C rfl
theorem d_str {i : Str} : DE K c O (tC (.str i)) (mC (.str i)) := d_C rfl
theorem d_non : DE K c O (tC .non) (mC .none) := d_C trivial
theorem d_op {r : R2} {f : D → D → Option D} (ho : OpG K r f) (ha : DB K c O ta b1) (hb : DB K c O tb b2) : DE K c O (tOp r ta tb) (mOp f b1 b2) := ⟨fun {F H σ fps ds ds' d} rl e Q q => by
  obtain ⟨x, s1, e1, g1⟩ := bnd_ok e
  obtain ⟨y, s2, e2, g2⟩ := bnd_ok g1
  refine ha.run rl e1 _ fun F1 H1 fps1 v sF r1 bv => ?_
  refine hb.run r1 e2 _ fun F2 H2 fps2 u sF2 r2 bu => ?_
  split at g2
  · rename_i dx dy hx hy
    obtain ⟨g3, z⟩ := opt_ok g2
    subst z
    refine ho F2 H2 v u dx dy d r2.sub (Bm.vw r2 (bv.mono sF2) hx) (Bm.vw r2 bu hy) g3 Q fun F3 H3 w g dp => ?_
    obtain ⟨r3, s3⟩ := g.rel r2
    exact q F3 H3 fps2 w ((sF.trans sF2).trans s3) r3 dp
  · cases g2⟩
theorem d_un {r : V → Hp → VK → Prop} {f : D → Option D} (ho : UnG K r f) (ha : DB K c O ta b1) : DE K c O (tUn r ta) (mUn f b1) := ⟨fun {F H σ fps ds ds' d} rl e Q q => by
  obtain ⟨x, s1, e1, g2⟩ := bnd_ok e
  refine ha.run rl e1 _ fun F1 H1 fps1 v sF r1 bv => ?_
  split at g2
  · rename_i dx hx
    obtain ⟨g3, z⟩ := opt_ok g2
    subst z
    refine ho F1 H1 v dx d r1.sub (Bm.vw r1 bv hx) g3 Q fun F3 H3 w g dp => ?_
    obtain ⟨r3, s3⟩ := g.rel r1
    exact q F3 H3 fps1 w (sF.trans s3) r3 dp
  · cases g2⟩
theorem d_test {m : M D} (h : DE K c O te m) : DT K c O (tTest te) (mB m) := ⟨fun {F H σ fps ds ds' b} r e Q q => by
  obtain ⟨d, s1, e1, e⟩ := bnd_ok e
  obtain ⟨e, z⟩ := opt_ok e
  subst z
  refine h.run r e1 _ fun F1 H1 fps1 v s r1 dp => ?_
  unfold tru at e
  split at e
  · cases e; cases dp; exact ⟨_, rfl, q F1 H1 fps1 s r1⟩
  · cases e⟩
theorem d_tB {m : M D} (h : DE K c O te m) : DT K c O (tB te) (mB m) := d_test h
theorem d_and (h1 : DT K c O tt m1) (h2 : DT K c O tu m2) : DT K c O (tAnd tt tu) (mAnd m1 m2) := ⟨fun {F H σ fps ds ds' b} r e Q q => by
  obtain ⟨d, s1, e1, e⟩ := bnd_ok e
  refine h1.run r e1 _ fun F1 H1 fps1 s r1 => ?_
  cases d with
  | true => exact iteT (h2.run r1 e _ fun F2 H2 fps2 s' r2 => q F2 H2 fps2 (s.trans s') r2)
  | false => cases e; exact iteF (q F1 H1 fps1 s r1)⟩
theorem d_or (h1 : DT K c O tt m1) (h2 : DT K c O tu m2) : DT K c O (tOr tt tu) (mOr m1 m2) := ⟨fun {F H σ fps ds ds' b} r e Q q => by
  obtain ⟨d, s1, e1, e⟩ := bnd_ok e
  refine h1.run r e1 _ fun F1 H1 fps1 s r1 => ?_
  cases d with
  | false => exact iteF (h2.run r1 e _ fun F2 H2 fps2 s' r2 => q F2 H2 fps2 (s.trans s') r2)
  | true => cases e; exact iteT (q F1 H1 fps1 s r1)⟩
theorem d_not (h1 : DT K c O tt m1) : DT K c O (tNot tt) (mNot m1) := ⟨fun {F H σ fps ds ds' b} r e Q q => by
  obtain ⟨d, s1, e1, e⟩ := bnd_ok e
  refine h1.run r e1 _ fun F1 H1 fps1 s r1 => ?_
  cases e
  exact q F1 H1 fps1 s r1⟩
theorem d_andV (h1 : DE K c O ta ma) (h2 : DE K c O tb mb) : DE K c O (tAndV ta tb) (mAndV ma mb) := ⟨fun {F H σ fps ds ds' b} r e Q q => by
  obtain ⟨d, s1, e1, e⟩ := bnd_ok e
  refine (d_test h1).run r e1 _ fun F1 H1 fps1 s r1 => ?_
  cases d with
  | true => exact iteT (h2.run r1 e _ fun F2 H2 fps2 v s' r2 => q F2 H2 fps2 v (s.trans s') r2)
  | false => cases e; exact iteF (q F1 H1 fps1 _ s r1 (.bl _))⟩
theorem d_ifE (h0 : DT K c O tt m1) (h1 : DE K c O ta ma) (h2 : DE K c O tb mb) : DE K c O (tIf tt ta tb) (mIf m1 ma mb) := ⟨fun {F H σ fps ds ds' b} r e Q q => by
  obtain ⟨d, s1, e1, e⟩ := bnd_ok e
  refine h0.run r e1 _ fun F1 H1 fps1 s r1 => ?_
  cases d with
  | true => exact iteT (h1.run r1 e _ fun F2 H2 fps2 v s' r2 => q F2 H2 fps2 v (s.trans s') r2)
  | false => exact iteF (h2.run r1 e _ fun F2 H2 fps2 v s' r2 => q F2 H2 fps2 v (s.trans s') r2)⟩
theorem d_chain {r r' : R2} {f f' : D → D → Option D} (ho : OpG K r f) (ho' : OpG K r' f') (ha : DE K c O ta ma) (hb : DE K c O tb mb) (hc : DE K c O tc mc) : DE K c O (tChain r r' ta tb tc) (mChain f f' ma mb mc) := ⟨fun {F H σ fps ds ds' d} rl e Q q => by
  obtain ⟨x, s1, e1, g1⟩ := bnd_ok e
  obtain ⟨y, s2, e2, g2⟩ := bnd_ok g1
  obtain ⟨z, s3, e3, g3⟩ := bnd_ok g2
  obtain ⟨e4, hz⟩ := opt_ok e3
  subst hz
  refine ha.run rl e1 _ fun F1 H1 fps1 v sF r1 bv => ?_
  refine hb.run r1 e2 _ fun F2 H2 fps2 u sF2 r2 bu => ?_
  refine ho F2 H2 v u x y z r2.sub (.inl (dp_mono sF2 bv)) (.inl bu) e4 _ fun F3 H3 w g dp => ?_
  obtain ⟨r3, sF3⟩ := g.rel r2
  split at g3
  · cases dp
    refine ⟨_, rfl, iteT ?_⟩
    obtain ⟨w', s4, e5, g4⟩ := bnd_ok g3
    obtain ⟨g5, hz⟩ := opt_ok g4
    subst hz
    refine hc.run r3 e5 _ fun F4 H4 fps4 v4 s4 r4 bv4 => ?_
    refine ho' F4 H4 u v4 y w' d r4.sub (.inl (dp_mono (sF3.trans s4) bu)) (.inl bv4) g5 Q fun F5 H5 w5 g6 dp5 => ?_
    obtain ⟨r5, sF5⟩ := g6.rel r4
    exact q F5 H5 fps4 w5 ((((sF.trans sF2).trans sF3).trans s4).trans sF5) r5 dp5
  · cases dp
    cases g3
    exact ⟨_, rfl, iteF (q F3 H3 fps2 _ ((sF.trans sF2).trans sF3) r3 (.bl _))⟩
  · cases g3⟩
end
end Z
set_option Elab.async false
set_option linter.all false
set_option maxRecDepth 100000
namespace Z
open PySem L2
section
variable {K : Fg} {c : Ctx} {O : List Kd} {ta tb tc te : TE} {tt tu : TT} {ma mb mc : M D} {m1 m2 : M Bool} {b1 b2 : M BR} {tl : TA} {ml : M (List D)} {bl : M (List BR)}
theorem da_nil : DA K c O tNil mNil := ⟨fun r e Q q => by cases e; exact q _ _ _ [] (Same.refl _) r .nil⟩
theorem da_cons (ha : DE K c O ta ma) (hl : DA K c O tl ml) : DA K c O (tCons ta tl) (mCons ma ml) := ⟨fun {F H σ fps ds ds' es} rl e Q q => by
  obtain ⟨x, s1, e1, g1⟩ := bnd_ok e
  obtain ⟨y, s2, e2, g2⟩ := bnd_ok g1
  cases g2
  refine ha.run rl e1 _ fun F1 H1 fps1 v sF r1 bv => ?_
  refine hl.run r1 e2 _ fun F2 H2 fps2 vs sF2 r2 bu => ?_
  exact q F2 H2 fps2 (v :: vs) (sF.trans sF2) r2 (.cons (dp_mono sF2 bv) bu)⟩
theorem BmA.mono {F F' : Hp} {σ : St} : ∀ {vs : List V} {bs : List BR}, Same F F' → BmA K O F σ vs bs → BmA K O F' σ vs bs
  | _, _, _, .nil => .nil
  | _, _, s, .cons h t => .cons (h.mono s) (t.mono s)
theorem dab_nil : DAB K c O tNil mNilB := ⟨fun r e Q q => by cases e; exact q _ _ _ [] (Same.refl _) r .nil⟩
theorem dab_cons (ha : DB K c O ta b1) (hl : DAB K c O tl bl) : DAB K c O (tCons ta tl) (mConsB b1 bl) := ⟨fun {F H σ fps ds ds' es} rl e Q q => by
  obtain ⟨x, s1, e1, g1⟩ := bnd_ok e
  obtain ⟨y, s2, e2, g2⟩ := bnd_ok g1
  cases g2
  refine ha.run rl e1 _ fun F1 H1 fps1 v sF r1 bv => ?_
  refine hl.run r1 e2 _ fun F2 H2 fps2 vs sF2 r2 bu => ?_
  exact q F2 H2 fps2 (v :: vs) (sF.trans sF2) r2 (.cons (bv.mono sF2) bu)⟩
theorem fits_of {n : Nat} (h : fits n = true) : n ≤ sizeLine := of_decide_eq_true h
theorem d_tup (h : DA K c O tl ml) : DE K c O (tTup tl) (mTup ml) := ⟨fun {F H σ fps ds ds' d} rl e Q q => by
  obtain ⟨xs, s1, e1, g1⟩ := bnd_ok e
  obtain ⟨g2, z⟩ := opt_ok g1
  subst z
  split at g2
  · rename_i hf
    cases g2
    refine h.run rl e1 _ fun F1 H1 fps1 vs sF r1 bv => ?_
    refine ⟨by rw [dpa_len bv]; exact fits_of hf, fun p hp => ?_⟩
    have s2 : Same F1 (upd F1 p (.tup vs)) := same_upd (r1.fresh hp).1
    exact q _ _ fps1 (.ref p) (sF.trans s2) (r1.alloc hp _) (.tup (SqT.of upd_same) (dpa_mono s2 bv))
  · cases g2⟩
theorem d_lst (h : DA K c O tl ml) : DE K c O (tLst tl) (mLst ml) := ⟨fun {F H σ fps ds ds' d} rl e Q q => by
  obtain ⟨xs, s1, e1, g1⟩ := bnd_ok e
  obtain ⟨g2, z⟩ := opt_ok g1
  subst z
  split at g2
  · rename_i hf
    cases g2
    refine h.run rl e1 _ fun F1 H1 fps1 vs sF r1 bv => ?_
    refine ⟨by rw [dpa_len bv]; exact fits_of hf, fun p hp => ?_⟩
    have s2 : Same F1 (upd F1 p (.lst vs)) := same_upd (r1.fresh hp).1
    exact q _ _ fps1 (.ref p) (sF.trans s2) (r1.alloc hp _) (.lst (SqL.of upd_same) (dpa_mono s2 bv))
  · cases g2⟩
theorem o_lst (h : DA K c O tl ml) : DO K c O (.ls .sh) (tLst tl) (mLst ml) := ⟨fun {F H σ fps ds ds' d} rl e Q q => by
  obtain ⟨xs, s1, e1, g1⟩ := bnd_ok e
  obtain ⟨g2, z⟩ := opt_ok g1
  subst z
  split at g2
  · rename_i hf
    cases g2
    refine h.run rl e1 _ fun F1 H1 fps1 vs sF r1 bv => ?_
    refine ⟨by rw [dpa_len bv]; exact fits_of hf, fun p hp => ?_⟩
    obtain ⟨hF, h0, hq⟩ := r1.fresh hp
    refine q F1 _ fps1 (.ref p) [p] sF (r1.allocO hp _) (ls_ow upd_same bv) (fun q' hq' => ?_) (by simp)
    have : q' = p := by simpa using hq'
    subst this
    exact ⟨hF, by rw [upd_same]; simp, h0, hq⟩
  · cases g2⟩
theorem resA {F H : Hp} {σ : St} {fps : Nat → List Addr} {ds : DS} (r : Rel K c O F H σ fps ds) : ∀ {vs : List V} {bs : List BR} {es : List D}, BmA K O F σ vs bs → bs.mapM (res ds) = some es → VwA K F H vs es
  | _, _, es, .nil, e => by cases e; exact .nil
  | _, _, es, .cons (b := b) (bs := bs) h t, e => by
    rw [List.mapM_cons] at e
    cases e1 : res ds b with
    | none => rw [e1] at e; cases e
    | some d =>
      cases e2 : bs.mapM (res ds) with
      | none => rw [e1, e2] at e; cases e
      | some ds' =>
        rw [e1, e2] at e
        cases e
        exact .cons (Bm.vw r h e1) (resA r t e2)
theorem d_cb {r : List V → Hp → VK → Prop} {f : List D → Option D} (hc : CaG K r f) (h : DAB K c O tl bl) : DE K c O (tCB r tl) (mB1 f bl) := ⟨fun {F H σ fps ds ds' d} rl e Q q => by
  obtain ⟨xs, s1, e1, g1⟩ := bnd_ok e
  split at g1
  · rename_i es he
    obtain ⟨g2, z⟩ := opt_ok g1
    subst z
    refine h.run rl e1 _ fun F1 H1 fps1 vs sF r1 bv => ?_
    refine hc F1 H1 vs es d r1.sub (resA r1 bv he) g2 Q fun F2 H2 v g dp => ?_
    obtain ⟨r2, s2⟩ := g.rel r1
    exact q F2 H2 fps1 v (sF.trans s2) r2 dp
  · cases g1⟩
end
def i2 (g : Int → Int → Option D) : D → D → Option D
  | .int i, .int j => g i j
  | _, _ => none
section
variable {K : Fg}
theorem g_int {r : R2} {g : Int → Int → Option D} (h : ∀ (i j : Int) (d : D) (H : Hp) (Q : VK), g i j = some d → (∀ v, Sc v d → Q v H) → r (.int i) (.int j) H Q) : OpG K r (i2 g) := fun F H x y dx dy d sF vx vy e Q q => by
  unfold i2 at e
  split at e
  · rw [vx.int, vy.int]
    exact h _ _ d H Q e fun v sc => q F H v .refl sc.dp
  · cases e
theorem g_I0 {g : Int → Int → V} {g' : Int → Int → D} (h : ∀ i j, Sc (g i j) (g' i j)) : OpG K (rI0 g) (i2 fun i j => some (g' i j)) := g_int fun i j d H Q e q => by
  cases e
  exact ⟨i, j, rfl, rfl, q _ (h i j)⟩
theorem g_I {C : Int → Int → Prop} {C' : Int → Int → Bool} {g : Int → Int → V} {g' : Int → Int → D} (hC : ∀ i j, C' i j = true → C i j) (h : ∀ i j, Sc (g i j) (g' i j)) : OpG K (rI C g) (i2 fun i j => if C' i j then some (g' i j) else none) := g_int fun i j d H Q e q => by
  split at e
  · rename_i hc
    cases e
    exact ⟨i, j, rfl, rfl, hC i j hc, q _ (h i j)⟩
  · cases e
def subI := i2 fun i j => some (.int (i - j))
@[irreducible] def mulC (i j : Int) : Bool := decide ((Builtin.Int.intBits i : Int) + (Builtin.Int.intBits j : Int) ≤ 134217728)
def mulI := i2 fun i j => if mulC i j then some (.int (i * j)) else none
@[irreducible] def divC (_i j : Int) : Bool := decide (0 < j ∧ j.natAbs.log2 < 9000)
def divI := i2 fun i j => if divC i j then some (.int (i / j)) else none
def modC (_i j : Int) : Bool := decide (0 < j)
def modI := i2 fun i j => if modC i j then some (.int (i % j)) else none
def powC (i j : Int) : Bool := decide (0 ≤ j ∧ j ≤ 1000000 ∧ i.natAbs < 18446744073709551616)
def powI := i2 fun i j => if powC i j then some (.int (i ^ j.toNat)) else none
@[irreducible] def shlC (i j : Int) : Bool := decide (0 ≤ j ∧ (Builtin.Int.intBits i : Int) + j ≤ 134217728)
def shlI := i2 fun i j => if shlC i j then some (.int (i * 2 ^ j.toNat)) else none
def shrC (_i j : Int) : Bool := decide (0 ≤ j)
def shrI := i2 fun i j => if shrC i j then some (.int (i / 2 ^ j.toNat)) else none
def andI := i2 fun i j => some (.int (Builtin.bitAnd i j))
def orI := i2 fun i j => some (.int (Builtin.bitOr i j))
def xorI := i2 fun i j => some (.int (Builtin.bitXor i j))
def ltI := i2 fun i j => some (.bool (decide (i < j)))
def leI := i2 fun i j => some (.bool (decide (i ≤ j)))
def gtI := i2 fun i j => some (.bool (decide (j < i)))
def geI := i2 fun i j => some (.bool (decide (j ≤ i)))
theorem g_sub : OpG K (rI0 fun i j => .int (i - j)) subI := g_I0 fun _ _ => rfl
theorem g_mul : OpG K (rI CMulX fun i j => .int (i * j)) mulI := g_I (fun i j h => (of_decide_eq_true (by unfold mulC at h; exact h) : (Builtin.Int.intBits i : Int) + (Builtin.Int.intBits j : Int) ≤ 134217728)) fun _ _ => rfl
theorem g_div : OpG K (rI CDivW fun i j => .int (i / j)) divI := g_I (fun i j h => (of_decide_eq_true (by unfold divC at h; exact h) : 0 < j ∧ j.natAbs.log2 < 9000)) fun _ _ => rfl
theorem g_mod : OpG K (rI (fun _ j => 0 < j) fun i j => .int (i % j)) modI := g_I (fun _ _ h => of_decide_eq_true h) fun _ _ => rfl
theorem g_pow : OpG K (rI CPow fun i j => .int (i ^ j.toNat)) powI := g_I (fun i j h => (of_decide_eq_true h : 0 ≤ j ∧ j ≤ 1000000 ∧ i.natAbs < 18446744073709551616)) fun _ _ => rfl
theorem g_lt : OpG K (rI0 fun i j => .bl (decide (i < j))) ltI := g_I0 fun _ _ => rfl
theorem g_le : OpG K (rI0 fun i j => .bl (decide (i ≤ j))) leI := g_I0 fun _ _ => rfl
theorem g_gt : OpG K (rI0 fun i j => .bl (decide (j < i))) gtI := g_I0 fun _ _ => rfl
theorem g_ge : OpG K (rI0 fun i j => .bl (decide (j ≤ i))) geI := g_I0 fun _ _ => rfl
def eqB : D → D → Option Bool
  | .int i, .int j => some (decide (i = j))
  | d, e => if SeqAt.shaped d && SeqAt.shaped e then some (PyData.eqv d e) else none
def eqD (x y : D) : Option D := (eqB x y).map .bool
def neD (x y : D) : Option D := (eqB x y).map fun b => .bool (!b)
theorem shaped_int (i : Int) : SeqAt.shaped (.int i) = true := by simp [SeqAt.shaped, PyData.canLay0, PyData.depth]
theorem eqB_all {d e : D} {b : Bool} (h : eqB d e = some b) : SeqAt.shaped d = true ∧ SeqAt.shaped e = true ∧ b = PyData.eqv d e := by
  unfold eqB at h
  split at h
  · cases h
    exact ⟨shaped_int _, shaped_int _, by rw [PyData.eqv]; exact (Bool.beq_eq_decide_eq _ _).symm⟩
  · split at h
    · rename_i hs
      rw [Bool.and_eq_true] at hs
      cases h
      exact ⟨hs.1, hs.2, rfl⟩
    · cases h
theorem g_eq : OpG K (rEqD K) eqD := fun F H x y dx dy d sF vx vy e Q q => by
  unfold eqD at e
  cases h : eqB dx dy with
  | none => rw [h] at e; cases e
  | some b =>
    rw [h] at e
    cases e
    obtain ⟨h1, h2, h3⟩ := eqB_all h
    subst h3
    exact ⟨dx, dy, vx.dp sF, vy.dp sF, h1, h2, q F H _ .refl (.bl _)⟩
theorem g_ne : OpG K (rNeD K) neD := fun F H x y dx dy d sF vx vy e Q q => by
  unfold neD at e
  cases h : eqB dx dy with
  | none => rw [h] at e; cases e
  | some b =>
    rw [h] at e
    cases e
    obtain ⟨h1, h2, h3⟩ := eqB_all h
    subst h3
    exact ⟨dx, dy, vx.dp sF, vy.dp sF, h1, h2, q F H _ .refl (.bl _)⟩
theorem atI_map {F : Hp} {vs : List V} {ds : List D} {i : Int} {d : D} (h : DpAll K F vs ds) (e : atI ds i = some d) : ∃ v, atI vs i = some v ∧ Dp K F v d := by
  unfold atI at e ⊢
  rw [dpa_len h]
  cases z : ixN ds.length i with
  | none => rw [z] at e; cases e
  | some j => rw [z] at e; exact dpa_get h e
def ixD : D → D → Option D
  | .list xs, .int i => atI xs i
  | .tuple xs, .int i => atI xs i
  | .str z, .int i => if fits z.length then (atI z.cps.toList i).map fun c => .str ⟨#[c]⟩ else none
  | _, _ => none
theorem g_ix : OpG K (rIx K) ixD := fun F H x y dx dy d sF vx vy e Q q => by
  unfold ixD at e
  split at e
  · obtain ⟨p, xs, rfl, sq, al⟩ := vx.lst sF
    obtain ⟨v, hv, dp⟩ := atI_map al e
    rw [vy.int]
    exact .inl ⟨p, xs, _, v, rfl, rfl, sq, hv, q F H v .refl dp⟩
  · obtain ⟨p, xs, rfl, sq, al⟩ := vx.tup sF
    obtain ⟨v, hv, dp⟩ := atI_map al e
    rw [vy.int]
    exact .inr (.inl ⟨p, xs, _, v, rfl, rfl, sq, hv, q F H v .refl dp⟩)
  · split at e
    · rename_i hf
      rw [vx.str, vy.int]
      rename_i z i
      cases h : atI z.cps.toList i with
      | none => rw [h] at e; cases e
      | some cc =>
        rw [h] at e
        cases e
        exact .inr (.inr ⟨z, i, cc, rfl, rfl, fits_of hf, h, q F H _ .refl (.str _)⟩)
    · cases e
  · cases e
def u1 (g : Int → D) : D → Option D
  | .int i => some (g i)
  | _ => none
theorem g_u {g : Int → V} {g' : Int → D} (h : ∀ i, Sc (g i) (g' i)) : UnG K (rU g) (u1 g') := fun F H x dx d sF vx e Q q => by
  unfold u1 at e
  split at e
  · cases e
    rw [vx.int]
    exact ⟨_, rfl, q F H _ .refl (h _).dp⟩
  · cases e
def negI := u1 fun i => .int (-i)
theorem g_neg : UnG K (rU fun i => .int (-i)) negI := g_u fun _ => rfl
end
end Z
set_option Elab.async false
set_option linter.all false
set_option maxRecDepth 100000
namespace Z
open PySem L2
def sNx : MS := fun s => .nx s
def sSeq (a b : MS) : MS := fun s => match a s with
  | .nx s' => b s'
  | .rt d s' => .rt d s'
  | .bk s' => .bk s'
  | .ct s' => .ct s'
  | .ex x s' => .ex x s'
  | .no => .no
def sSet (i : Nat) (m : M D) : MS := fun s => match m s with
  | .ok d s' => .nx (s'.set i (some d))
  | .no => .no
def sDrop (m : M D) : MS := fun s => match m s with
  | .ok _ s' => .nx s'
  | .no => .no
def sRet (m : M D) : MS := fun s => match m s with
  | .ok d s' => .rt d s'
  | .no => .no
def sIf (t : M Bool) (a b : MS) : MS := fun s => match t s with
  | .ok true s' => a s'
  | .ok false s' => b s'
  | .no => .no
def sNo : MS := fun _ => .no
def sBk : MS := fun s => .bk s
def sCt : MS := fun s => .ct s
abbrev MG := D → DS → Option DS
def gN (i : Nat) : MG := fun d s => some (s.set i (some d))
def gT (n : Nat) (g : List D → DS → Option DS) : MG := fun d s => match d with
  | .tuple xs => if xs.length = n then g xs s else none
  | _ => none
def gL (n : Nat) (g : List D → DS → Option DS) : MG := fun d s => match d with
  | .list xs => if xs.length = n then g xs s else none
  | _ => none
def gC (a : MG) (r : List D → DS → Option DS) : List D → DS → Option DS := fun xs s => match xs with
  | x :: ys => match a x s with
    | some s' => r ys s'
    | none => none
  | [] => none
def gE : List D → DS → Option DS := fun xs s => match xs with
  | [] => some s
  | _ => none
def sAsg (m : M D) (g : MG) : MS := fun s => match m s with
  | .ok d s' => match g d s' with
    | some s2 => .nx s2
    | none => .no
  | .no => .no
def sApp (i : Nat) (m : M D) : MS := fun s => match s[i]? with
  | some (some (.list _)) => match m s with
    | .ok d s' => match s'[i]? with
      | some (some (.list xs)) => if decide (xs.length < sizeLine) then .nx (s'.set i (some (.list (xs ++ [d])))) else .no
      | _ => .no
    | .no => .no
  | _ => .no
def sPut (i : Nat) (me : M D) (m : M D) : MS := fun s => match m s with
  | .ok d s1 => match s1[i]? with
    | some (some (.list _)) => match me s1 with
      | .ok k s2 => match k, s2[i]? with
        | .int k, some (some (.list xs)) => match ixN xs.length k with
          | some j => .nx (s2.set i (some (.list (xs.set j d))))
          | none => .no
        | _, _ => .no
      | .no => .no
    | _ => .no
  | .no => .no
def turn (f : DS → RS) : RS → RS
  | .nx s => f s
  | .ct s => f s
  | .bk s => .nx s
  | .rt d s => .rt d s
  | .ex x s => .ex x s
  | .no => .no
def loop (g : MG) (b : MS) : List D → MS
  | [], s => .nx s
  | d :: r, s => match g d s with
    | some s' => turn (loop g b r) (b s')
    | none => .no
def sFor (mi : M (List D)) (g : MG) (b : MS) : MS := fun s => match mi s with
  | .ok xs s' => loop g b xs s'
  | .no => .no
def wl (t : M Bool) (b : MS) : Nat → MS
  | 0, _ => .no
  | n + 1, s => match t s with
    | .ok true s' => turn (wl t b n) (b s')
    | .ok false s' => .nx s'
    | .no => .no
open Classical in
noncomputable def sWhile (t : M Bool) (b : MS) : MS := fun s => if h : ∃ n, wl t b n s ≠ .no then wl t b (Classical.choose h) s else .no
section
variable {K : Fg} {c : Ctx} {Ob O O' O2 : List Kd} {te : TE} {tt : TT} {t u : TS} {m : M D} {m1 : M Bool} {a b : MS}
theorem Post.mono {F F' : Hp} {E : Ends} {r : RS} (s : Same F F') (h : Post K c Ob O' F E r) : Post K c Ob O' F' E r := by
  cases r with
  | nx _ => exact fun F2 H2 σ2 fps2 s2 => h F2 H2 σ2 fps2 (s.trans s2)
  | bk _ => exact fun F2 H2 σ2 fps2 s2 => h F2 H2 σ2 fps2 (s.trans s2)
  | ct _ => exact fun F2 H2 σ2 fps2 s2 => h F2 H2 σ2 fps2 (s.trans s2)
  | rt _ _ => exact fun F2 H2 σ2 fps2 O2 v fpv s2 => h F2 H2 σ2 fps2 O2 v fpv (s.trans s2)
  | ex _ _ => exact fun F2 H2 σ2 fps2 O2 cls dd hO s2 => h F2 H2 σ2 fps2 O2 cls dd hO (s.trans s2)
  | no => exact h
theorem c_nil : DC K c Ob O tNext sNx O := ⟨fun r E p => p _ _ _ _ (Same.refl _) r⟩
theorem c_cons (h1 : DC K c Ob O t a O2) (h2 : DC K c Ob O2 u b O') : DC K c Ob O (tSeq t u) (sSeq a b) O' := ⟨fun {F H σ fps ds} r E p => by
  refine h1.run r _ ?_
  show Post K c Ob O2 F { E with nx := u E } (a ds)
  have p' : Post K c Ob O' F E (sSeq a b ds) := p
  unfold sSeq at p'
  cases e : a ds with
  | nx s' => rw [e] at p'; exact fun F1 H1 σ1 fps1 s1 r1 => h2.run r1 E (p'.mono s1)
  | bk _ => rw [e] at p'; exact p'
  | ct _ => rw [e] at p'; exact p'
  | rt _ _ => rw [e] at p'; exact p'
  | ex _ _ => rw [e] at p'; exact p'
  | no => rw [e] at p'; exact p'⟩
theorem c_set (i : Nat) (h : DE K c O te m) (hi : i < O.length := by first | decide | exact of_decide_eq_true rfl) (hp : isPm O[i]? = false := by rfl) : DC K c Ob O (tAsg te (gName i)) (sSet i m) (O.set i .sh) := ⟨fun {F H σ fps ds} r E p => by
  unfold sSet at p
  cases e : m ds with
  | no => rw [e] at p; exact p.elim
  | ok d s' =>
    rw [e] at p
    refine h.run r e _ fun F1 H1 fps1 v s1 r1 dp => ?_
    exact p F1 H1 _ _ s1 (r1.put hi hp (k := .sh) (fpv := []) ⟨rfl, dp⟩ (fun q hq => absurd hq (by simp)) (by simp))⟩
theorem c_setO (i : Nat) {k : Kd} (h : DO K c O k te m) (hi : i < O.length := by first | decide | exact of_decide_eq_true rfl) (hp : isPm O[i]? = false := by rfl) : DC K c Ob O (tAsg te (gName i)) (sSet i m) (O.set i k) := ⟨fun {F H σ fps ds} r E p => by
  unfold sSet at p
  cases e : m ds with
  | no => rw [e] at p; exact p.elim
  | ok d s' =>
    rw [e] at p
    refine h.run r e _ fun F1 H1 fps1 v fpv s1 r1 ow hf nd => ?_
    exact p F1 H1 _ _ s1 (r1.put hi hp ow (fun q hq => ⟨(hf q hq).1, (hf q hq).2.1, (hf q hq).2.2.1, fun j _ => (hf q hq).2.2.2 j⟩) nd)⟩
theorem c_ret (h : DE K c O te m) (hk : c.rk = .sh) : DC K c Ob O (tRet te) (sRet m) O' := ⟨fun {F H σ fps ds} r E p => by
  unfold sRet at p
  cases e : m ds with
  | no => rw [e] at p; exact p.elim
  | ok d s' =>
    rw [e] at p
    exact h.run r e _ fun F1 H1 fps1 v s1 r1 dp => p F1 H1 σ fps1 O v [] s1 r1 (by rw [hk]; exact ⟨rfl, dp⟩) (fun q hq => absurd hq (by simp)) (by simp)⟩
theorem c_retO {k : Kd} (h : DO K c O k te m) (hk : c.rk = k) : DC K c Ob O (tRet te) (sRet m) O' := ⟨fun {F H σ fps ds} r E p => by
  unfold sRet at p
  cases e : m ds with
  | no => rw [e] at p; exact p.elim
  | ok d s' =>
    rw [e] at p
    refine h.run r e _ fun F1 H1 fps1 v fpv s1 r1 ow hf nd => p F1 H1 σ fps1 O v fpv s1 r1 (by rw [hk]; exact ow) (fun q hq => ?_) nd
    obtain ⟨h1, h2, h3, h4⟩ := hf q hq
    exact ⟨h1, h2, h3, fun i _ => h4 i⟩⟩
theorem c_if (h : DT K c O tt m1) (h1 : DC K c Ob O t a O') (h2 : DC K c Ob O u b O') : DC K c Ob O (tIfS tt t u) (sIf m1 a b) O' := ⟨fun {F H σ fps ds} r E p => by
  unfold sIf at p
  cases e : m1 ds with
  | no => rw [e] at p; exact p.elim
  | ok v s' =>
    rw [e] at p
    refine h.run r e _ fun F1 H1 fps1 s1 r1 => ?_
    cases v with
    | true => exact iteT (h1.run r1 E (p.mono s1))
    | false => exact iteF (h2.run r1 E (p.mono s1))⟩
theorem frz_sh {F H : Hp} {p : Addr} {xs : List V} {ds : List D} (hp : H p = some (.lst xs)) (al : DpAll K F xs ds) (hF : F p = none) : Dp K (upd F p (.lst xs)) (.ref p) (.list ds) := .lst (SqL.of upd_same) (dpa_mono (same_upd hF) al)
theorem Rel.freeze {F H : Hp} {σ : St} {fps : Nat → List Addr} {ds : DS} (r : Rel K c O F H σ fps ds) (i : Nat) (hk : O[i]? = some (.ls .sh)) (hs : ∃ d, ds[i]? = some (some d)) :
    ∃ F', Same F F' ∧ Rel K c (O.set i .sh) F' H σ (fun j => if j = i then [] else fps j) ds := by
  obtain ⟨d, hd⟩ := hs
  obtain ⟨v, hv, ow⟩ := r.slots i d hd
  have hk' : O.getD i .sh = .ls .sh := by rw [List.getD_eq_getElem?_getD, hk]; rfl
  have hi : i < O.length := (List.getElem?_eq_some_iff.mp hk).1
  rw [hk'] at ow
  obtain ⟨p, xs, es, rfl, rfl, hp, hfp, al⟩ := ow_ls rfl ow
  have hmem : p ∈ fps i := by rw [hfp]; simp
  obtain ⟨hF, hH, h0⟩ := r.off i p hmem
  have hnp : ∀ k, c.pk i ≠ some k := fun k z => by
    obtain ⟨k2, this, _⟩ := (r.par i k z).1
    rw [hk] at this
    cases this
  have h0' : c.H0 p = none := by
    rcases h0 with h | ⟨_, h⟩
    · exact h
    · rw [hk] at h; cases h
  have sF : Same F (upd F p (.lst xs)) := same_upd hF
  have hoff : ∀ j q, j ≠ i → q ∈ fps j → q ≠ p := fun j q hj hq z => by subst z; exact r.dj j i hj q hq hmem
  refine ⟨upd F p (.lst xs), sF, fun b o e => ?_, r.base.trans sF, r.keep, r.live, fun b o e => ?_, fun j d' hj => ?_, fun j q hq => ?_, fun j => ?_, fun j l hjl q hq hq' => ?_, fun j k h => ?_, r.len⟩
  · by_cases hb : b = p
    · subst hb; rw [upd_same] at e; rw [hp]; exact e
    · rw [upd_ne hb] at e; exact r.sub b o e
  · by_cases hb : b = p
    · subst hb; exact .inr h0'
    · rw [upd_ne hb] at e; exact r.new b o e
  · by_cases z : j = i
    · subst z
      rw [hd] at hj
      cases hj
      refine ⟨_, hv, ?_⟩
      rw [getD_set_eq hi]
      simp only [if_pos]
      exact ⟨rfl, frz_sh hp al hF⟩
    · obtain ⟨u, hu, w⟩ := r.slots j d' hj
      refine ⟨u, hu, ?_⟩
      rw [getD_set_ne z]
      simp only [if_neg z]
      exact ow_mono sF w fun _ _ => rfl
  · by_cases z : j = i
    · simp only [z, if_pos] at hq
      exact absurd hq (by simp)
    · simp only [if_neg z] at hq
      rw [List.getElem?_set_ne (Ne.symm z), upd_ne (hoff j q z hq)]
      exact r.off j q hq
  · by_cases z : j = i
    · simp only [z, if_pos]; simp
    · simp only [if_neg z]; exact r.nd j
  · by_cases z : j = i
    · simp only [z, if_pos] at hq
      exact absurd hq (by simp)
    · by_cases z' : l = i
      · simp only [z', if_pos] at hq'
        exact absurd hq' (by simp)
      · simp only [if_neg z] at hq
        simp only [if_neg z'] at hq'
        exact r.dj j l hjl q hq hq'
  · obtain ⟨x, y⟩ := r.par j k h
    have hj : j ≠ i := fun z => by subst z; exact hnp k h
    exact ⟨by rw [List.getElem?_set_ne (Ne.symm hj)]; exact x, y⟩
def sFrz (i : Nat) (b : MS) : MS := fun s => match s[i]? with
  | some (some _) => b s
  | _ => .no
theorem c_frz (i : Nat) (hk : O[i]? = some (.ls .sh)) (h : DC K c Ob (O.set i .sh) t b O') : DC K c Ob O t (sFrz i b) O' := ⟨fun {F H σ fps ds} r E p => by
  unfold sFrz at p
  split at p
  · rename_i d hd
    obtain ⟨F', s, r'⟩ := r.freeze i hk ⟨d, hd⟩
    exact h.run r' E (p.mono s)
  · exact p.elim⟩
theorem Rel.mut {F H : Hp} {σ : St} {fps : Nat → List Addr} {ds : DS} (r : Rel K c O F H σ fps ds) {i : Nat} {p : Addr} {xs : List V} {es : List D} (hk : lsish (O.getD i .sh) = true) (hs : ∃ d, ds[i]? = some (some d)) (hv : σ[i]? = some (some (.ref p))) (hp : fps i = [p]) (al : DpAll K F xs es) :
    Rel K c O F (upd H p (.lst xs)) σ fps (ds.set i (some (.list es))) := by
  have hmem : p ∈ fps i := by rw [hp]; simp
  obtain ⟨hF, hH, h0⟩ := r.off i p hmem
  have hoff : ∀ j q, j ≠ i → q ∈ fps j → q ≠ p := fun j q hj hq z => by subst z; exact r.dj j i hj q hq hmem
  obtain ⟨d0, hd0⟩ := hs
  have hl : i < ds.length := (List.getElem?_eq_some_iff.mp hd0).1
  refine ⟨fun b o e => ?_, r.base, fun b o e n => ?_, fun b e => ?_, r.new, fun j d hj => ?_, fun j q hq => ?_, r.nd, r.dj, r.par, by rw [List.length_set]; exact r.len⟩
  · rw [upd_ne (ne_of_none e hF)]; exact r.sub b o e
  · have hb : b ≠ p := fun z => by
      subst z
      rcases h0 with h | ⟨h, _⟩
      · rw [h] at e; cases e
      · exact n ⟨_, h⟩
    rw [upd_ne hb]; exact r.keep b o e n
  · by_cases hb : b = p
    · subst hb; rw [upd_same] at e; cases e
    · rw [upd_ne hb] at e; exact r.live b e
  · by_cases z : j = i
    · subst z
      rw [List.getElem?_set_self hl] at hj
      cases hj
      refine ⟨_, hv, ?_⟩
      rw [hp]
      have ow : Ow K F (upd H p (.lst xs)) (.ls .sh) (.ref p) (.list es) [p] := ls_ow upd_same al
      unfold lsish at hk
      split at hk
      · rename_i e; rw [e]; exact ow
      · rename_i e; rw [e]; exact ow
      · cases hk
    · rw [List.getElem?_set_ne (Ne.symm z)] at hj
      obtain ⟨u, hu, w⟩ := r.slots j d hj
      exact ⟨u, hu, ow_mono (Same.refl _) w fun q hq => upd_ne (hoff j q z hq)⟩
  · by_cases z : q = p
    · subst z
      exact ⟨hF, by rw [upd_same]; simp, (r.off j q hq).2.2⟩
    · rw [upd_ne z]; exact r.off j q hq
theorem c_app (i : Nat) (h : DE K c O te m) (hk : lsish (O.getD i .sh) = true := by rfl) : DC K c Ob O (tDrop (tBM K "list" rAppend (tVar i) (tCons te tNil))) (sApp i m) O := ⟨fun {F H σ fps ds} r E p => by
  unfold sApp at p
  split at p
  · rename_i ys hy
    obtain ⟨v, hv, ow⟩ := r.slots i _ hy
    obtain ⟨q0, zs, es, rfl, _, hq0, _, _⟩ := ow_ls hk ow
    refine ⟨_, hv, .inl ⟨rfl, zs, SqL.of hq0⟩, ?_⟩
    cases e : m ds with
    | no => rw [e] at p; exact p.elim
    | ok d s' =>
      rw [e] at p
      dsimp only at p
      split at p
      · rename_i xs hx
        split at p
        · rename_i hz
          refine h.run r e _ fun F1 H1 fps1 w s1 r1 dp => ?_
          obtain ⟨v1, hv1, ow1⟩ := r1.slots i _ hx
          obtain ⟨q1, zs1, es1, rfl, e2, hq1, hfp, al⟩ := ow_ls hk ow1
          cases e2
          have e3 : q1 = q0 := by rw [hv] at hv1; cases hv1; rfl
          subst e3
          refine ⟨_, zs1, w, rfl, rfl, hq1, by rw [dpa_len al]; exact of_decide_eq_true hz, ?_⟩
          exact p F1 _ σ fps1 s1 (r1.mut hk ⟨_, hx⟩ hv hfp (dpa_append al (.cons dp .nil)))
        · exact p.elim
      · exact p.elim
  · exact p.elim⟩
theorem c_put (i : Nat) {ti : TE} {mi : M D} (h : DE K c O te m) (hi : DE K c O ti mi) (hk : lsish (O.getD i .sh) = true := by rfl) : DC K c Ob O (tAsg te (gSub (tVar i) ti rSetL)) (sPut i mi m) O := ⟨fun {F H σ fps ds} r E p => by
  unfold sPut at p
  cases e : m ds with
  | no => rw [e] at p; exact p.elim
  | ok d s' =>
    rw [e] at p
    dsimp only at p
    refine h.run r e _ fun F1 H1 fps1 w s1 r1 dp => ?_
    split at p
    · rename_i ys hy
      obtain ⟨v, hv, ow⟩ := r1.slots i _ hy
      refine ⟨_, hv, ?_⟩
      cases e2 : mi s' with
      | no => rw [e2] at p; exact p.elim
      | ok k s2 =>
        rw [e2] at p
        dsimp only at p
        refine hi.run r1 e2 _ fun F2 H2 fps2 w2 s2 r2 dp2 => ?_
        split at p
        · rename_i kk xs hx
          cases dp2
          split at p
          · rename_i j hj
            obtain ⟨v1, hv1, ow1⟩ := r2.slots i _ hx
            obtain ⟨q1, zs1, es1, rfl, e3, hq1, hfp, al⟩ := ow_ls hk ow1
            cases e3
            have e4 : v = .ref q1 := by rw [hv] at hv1; cases hv1; rfl
            subst e4
            refine ⟨q1, zs1, kk, j, rfl, rfl, hq1, by rw [dpa_len al]; exact hj, ?_⟩
            exact p F2 _ σ fps2 (s1.trans s2) (r2.mut hk ⟨_, hx⟩ hv hfp (dpa_set (dp_mono s2 dp) j al))
          · exact p.elim
        · exact p.elim
    · exact p.elim⟩
structure DG (K : Fg) (c : Ctx) (O : List Kd) (g : TG) (mg : MG) : Prop where
  run : ∀ {F H : Hp} {σ : St} {fps : Nat → List Addr} {ds ds' : DS} {v : V} {d : D}, Rel K c O F H σ fps ds → Dp K F v d → mg d ds = some ds' → ∀ Q : St → Hp → Prop,
    (∀ σ' fps', Rel K c O F H σ' fps' ds' → Q σ' H) → g v σ H Q
structure DGs (K : Fg) (c : Ctx) (O : List Kd) (g : TGs) (mg : List D → DS → Option DS) : Prop where
  run : ∀ {F H : Hp} {σ : St} {fps : Nat → List Addr} {ds ds' : DS} {vs : List V} {es : List D}, Rel K c O F H σ fps ds → DpAll K F vs es → mg es ds = some ds' → ∀ Q : St → Hp → Prop,
    (∀ σ' fps', Rel K c O F H σ' fps' ds' → Q σ' H) → g vs σ H Q
theorem g_name (i : Nat) (hi : O[i]? = some .sh := by rfl) : DG K c O (gName i) (gN i) := ⟨fun {F H σ fps ds ds' v d} r dp e Q q => by
  cases e
  have hl : i < O.length := (List.getElem?_eq_some_iff.mp hi).1
  have r' := r.put hl (by rw [hi]; rfl) (k := .sh) (v := v) (d := d) (fpv := []) ⟨rfl, dp⟩ (fun q hq => absurd hq (by simp)) (by simp)
  have eO : O.set i .sh = O := by
    apply List.ext_getElem? 
    intro j
    by_cases z : j = i
    · subst z; rw [List.getElem?_set_self hl, hi]
    · rw [List.getElem?_set_ne (Ne.symm z)]
  rw [eO] at r'
  exact q _ _ r'⟩
def Walks (K : Fg) (F : Hp) (J : It) (xs : List D) : Prop := ∀ F1 H1 i, Same F F1 → Same F1 H1 →
  (∀ d, xs[i]? = some d → J.go i H1 ∧ ∀ x H2, J.yld i H1 x H2 → ∃ F2, Grow F1 H1 F2 H2 ∧ Dp K F2 x d) ∧ (i = xs.length → J.stop i H1)
structure DI (K : Fg) (c : Ctx) (O : List Kd) (w : TI) (m : M (List D)) : Prop where
  run : ∀ {F H : Hp} {σ : St} {fps : Nat → List Addr} {ds ds' : DS} {xs : List D}, Rel K c O F H σ fps ds → m ds = .ok xs ds' → ∀ R : It → Hp → Prop,
    (∀ F' H' fps' J, Same F F' → Rel K c O F' H' σ fps' ds' → Walks K F' J xs → R J H') → w σ H R
theorem c_for {wi : TI} {mi : M (List D)} {g : TG} {mg : MG} {tb : TS} {b : MS} (hi : DI K c O wi mi) (hg : DG K c O g mg) (hb : DC K c O O tb b O) : DC K c Ob O (tFor wi g tb) (sFor mi mg b) O := ⟨fun {F H σ fps ds} r E p => by
  unfold sFor at p
  cases e : mi ds with
  | no => rw [e] at p; exact p.elim
  | ok xs s' =>
    rw [e] at p
    dsimp only at p
    refine hi.run r e _ fun F1 H1 fps1 J s1 r1 wk => ?_
    refine ⟨fun i m σ H => m + i = xs.length ∧ ∃ F' fps' ds', Same F1 F' ∧ Rel K c O F' H σ fps' ds' ∧ Post K c Ob O F' E (loop mg b (xs.drop i) ds'), ⟨xs.length, by omega, F1, fps1, s', Same.refl _, r1, p.mono s1⟩, ?_⟩
    rintro i m σ2 H2 ⟨hm, F2, fps2, ds2, s2, r2, p2⟩
    obtain ⟨w1, w2⟩ := wk F2 H2 i s2 r2.sub
    cases hx : xs[i]? with
    | none =>
      have hl : xs.length ≤ i := List.getElem?_eq_none_iff.mp hx
      have hi' : i = xs.length := by omega
      refine .inl ⟨w2 hi', ?_⟩
      rw [List.drop_of_length_le hl] at p2
      exact p2 F2 H2 σ2 fps2 (Same.refl _) r2
    | some d =>
      obtain ⟨go, yl⟩ := w1 d hx
      have hlt : i < xs.length := (List.getElem?_eq_some_iff.mp hx).1
      have hd : xs.drop i = d :: xs.drop (i + 1) := by
        rw [List.drop_eq_getElem_cons hlt]
        congr 1
        rw [List.getElem?_eq_getElem hlt] at hx
        exact Option.some.inj hx
      rw [hd] at p2
      unfold loop at p2
      refine .inr ⟨go, fun σ' H' => ∃ F' fps' ds', Same F1 F' ∧ Rel K c O F' H' σ' fps' ds' ∧ Post K c Ob O F' E (loop mg b (xs.drop (i + 1)) ds'), fun σ' H' h => ⟨m - 1, by omega, by omega, h⟩, fun x H3 hy => ?_⟩
      obtain ⟨F3, gr, dp⟩ := yl x H3 hy
      obtain ⟨r3, s3⟩ := gr.rel r2
      split at p2
      · rename_i ds3 hg3
        refine hg.run r3 dp hg3 _ fun σ4 fps4 r4 => ?_
        refine hb.run r4 _ ?_
        have s13 : Same F1 F3 := s2.trans s3
        have p3 := p2.mono s3
        cases eb : b ds3 with
        | nx s4 => rw [eb] at p3; exact fun F5 H5 σ5 fps5 s5 r5 => ⟨F5, fps5, s4, s13.trans s5, r5, p3.mono s5⟩
        | ct s4 => rw [eb] at p3; exact fun F5 H5 σ5 fps5 s5 r5 => ⟨F5, fps5, s4, s13.trans s5, r5, p3.mono s5⟩
        | bk s4 => rw [eb] at p3; exact fun F5 H5 σ5 fps5 s5 r5 => p3 F5 H5 σ5 fps5 s5 r5
        | rt d s4 => rw [eb] at p3; exact p3
        | ex x s4 => rw [eb] at p3; exact p3
        | no => rw [eb] at p3; exact p3.elim
      · exact p2.elim⟩
end
end Z
set_option Elab.async false
set_option linter.all false
set_option maxRecDepth 100000
namespace Z
open PySem L2
inductive RF where
  | ok (d : D) (as : List D)
  | ex (x : Xc) (as : List D)
  | no
abbrev FD := List D → RF
def look (s : DS) (i : Nat) : Option D := match s[i]? with
  | some (some d) => some d
  | _ => none
def entry (N : Nat) (args : List D) : DS := args.map some ++ List.replicate (N - args.length) none
def leave (n : Nat) (d : D) (s : DS) : RF := match (List.range n).mapM (look s) with
  | some as => .ok d as
  | none => .no
def leaveX (n : Nat) (x : Xc) (s : DS) : RF := match (List.range n).mapM (look s) with
  | some as => .ex x as
  | none => .no
def fnD (N n : Nat) (rk : Kd) (b : MS) : FD := fun args => if args.length = n then (match b (entry N args) with
  | .rt d s => leave n d s
  | .ex x s => leaveX n x s
  | .nx s => if rk = .sh then leave n .none s else .no
  | _ => .no) else .no
structure ArgR (K : Fg) (ps : List Kd) (F H : Hp) (vs : List V) (fps : Nat → List Addr) (args : List D) : Prop where
  lv : vs.length = ps.length
  la : args.length = ps.length
  sub : Same F H
  ow : ∀ i d, args[i]? = some d → ∃ v, vs[i]? = some v ∧ Ow K F H (ps.getD i .sh) v d (fps i)
  off : ∀ i q, q ∈ fps i → F q = none ∧ H q ≠ none
  nd : ∀ i, (fps i).Nodup
  dj : ∀ i j, i ≠ j → ∀ q, q ∈ fps i → q ∉ fps j
def Mv (ps : List Kd) (fps : Nat → List Addr) (b : Addr) : Prop := ∃ i, b ∈ fps i ∧ isPm ps[i]? = false
structure OutB (K : Fg) (ps : List Kd) (F H F' H' : Hp) (vs : List V) (fps fps' : Nat → List Addr) (args' : List D) : Prop where
  ext : Same F F'
  sub : Same F' H'
  keep : ∀ b o, H b = some o → (∀ i, b ∉ fps i) → H' b = some o
  live : ∀ b, H' b = none → H b = none ∨ Mv ps fps b
  new : ∀ b o, F' b = some o → F b = some o ∨ H b = none ∨ Mv ps fps b
  ow : ∀ i k e, ps[i]? = some (.pm k) → args'[i]? = some e → ∃ u, vs[i]? = some u ∧ Ow K F' H' k u e (fps' i)
  off : ∀ i q, isPm ps[i]? = true → q ∈ fps' i → F' q = none ∧ H' q ≠ none ∧ (H q = none ∨ Mv ps fps q ∨ q ∈ fps i)
  nd : ∀ i, (fps' i).Nodup
  dj : ∀ i j, i ≠ j → ∀ q, q ∈ fps' i → q ∉ fps' j
structure OutR (K : Fg) (ps : List Kd) (rk : Kd) (F H F' H' : Hp) (vs : List V) (fps fps' : Nat → List Addr) (args' : List D) (v : V) (d : D) (fpv : List Addr) : Prop extends OutB K ps F H F' H' vs fps fps' args' where
  res : Ow K F' H' rk v d fpv
  roff : ∀ q ∈ fpv, F' q = none ∧ H' q ≠ none ∧ (H q = none ∨ Mv ps fps q) ∧ ∀ i, ps[i]?.isSome = true → q ∉ fps' i
  rnd : fpv.Nodup
theorem OutB.live0 {K : Fg} {ps : List Kd} {F H F' H' : Hp} {vs : List V} {fps fps' : Nat → List Addr} {args' : List D} (o : OutB K ps F H F' H' vs fps fps' args') (hm : ∀ b, ¬ Mv ps fps b) : ∀ b, H' b = none → H b = none := fun b e => (o.live b e).elim id fun z => absurd z (hm b)
theorem OutB.new0 {K : Fg} {ps : List Kd} {F H F' H' : Hp} {vs : List V} {fps fps' : Nat → List Addr} {args' : List D} (o : OutB K ps F H F' H' vs fps fps' args') (hm : ∀ b, ¬ Mv ps fps b) : ∀ b u, F' b = some u → F b = some u ∨ H b = none := fun b u e => (o.new b u e).imp id fun z => z.elim id fun z => absurd z (hm b)
theorem OutR.roff0 {K : Fg} {ps : List Kd} {rk : Kd} {F H F' H' : Hp} {vs : List V} {fps fps' : Nat → List Addr} {args' : List D} {v : V} {d : D} {fpv : List Addr} (o : OutR K ps rk F H F' H' vs fps fps' args' v d fpv) (hm : ∀ b, ¬ Mv ps fps b) : ∀ q ∈ fpv, F' q = none ∧ H' q ≠ none ∧ H q = none ∧ ∀ i, ps[i]?.isSome = true → q ∉ fps' i := fun q hq => by
  obtain ⟨h1, h2, h3, h4⟩ := o.roff q hq
  exact ⟨h1, h2, h3.elim id fun z => absurd z (hm q), h4⟩
theorem mv_nil {ps : List Kd} (b : Addr) : ¬ Mv ps (fun _ => []) b := fun ⟨_, h, _⟩ => by cases h
theorem mv_one {ps : List Kd} {k : Kd} {fp : List Addr} (b : Addr) : ¬ Mv (.pm k :: ps) (fun i => if i = 0 then fp else []) b := fun ⟨i, h, e⟩ => by
  by_cases z : i = 0
  · subst z; cases e
  · simp only [if_neg z] at h; cases h
def spD (K : Fg) (mg : Str → Option Value) (f : FD) (ps : List Kd) (rk : Kd) : Sp := fun vs H Q E => ∃ (F : Hp) (fps : Nat → List Addr) (args : List D), ArgR K ps F H vs fps args ∧ match f args with
  | .ok d args' => ∀ F' H' fps' v fpv, OutR K ps rk F H F' H' vs fps fps' args' v d fpv → Q v H'
  | .ex x args' => ∀ F' H' fps' cls dd, OutB K ps F H F' H' vs fps fps' args' → ExOk K mg F' x cls dd → E cls dd H'
  | .no => False
theorem spD_ok {K : Fg} {mg : Str → Option Value} {f : FD} {ps : List Kd} {rk : Kd} {vs : List V} {H : Hp} {Q : VK} {E : XK} {F : Hp} {fps : Nat → List Addr} {args args' : List D} {d : D} (A : ArgR K ps F H vs fps args) (e : f args = .ok d args')
    (q : ∀ F' H' fps' v fpv, OutR K ps rk F H F' H' vs fps fps' args' v d fpv → Q v H') : spD K mg f ps rk vs H Q E := ⟨F, fps, args, A, by rw [e]; exact q⟩
theorem spD_ex {K : Fg} {mg : Str → Option Value} {f : FD} {ps : List Kd} {rk : Kd} {vs : List V} {H : Hp} {Q : VK} {E : XK} {F : Hp} {fps : Nat → List Addr} {args args' : List D} {x : Xc} (A : ArgR K ps F H vs fps args) (e : f args = .ex x args')
    (q : ∀ F' H' fps' cls dd, OutB K ps F H F' H' vs fps fps' args' → ExOk K mg F' x cls dd → E cls dd H') : spD K mg f ps rk vs H Q E := ⟨F, fps, args, A, by rw [e]; exact q⟩
theorem mapM_get {s : DS} : ∀ {l : List Nat} {as : List D} {i : Nat} {d : D}, l.mapM (look s) = some as → as[i]? = some d → ∃ j, l[i]? = some j ∧ look s j = some d
  | [], as, i, d, h, e => by cases h; simp at e
  | j :: l, as, i, d, h, e => by
    rw [List.mapM_cons] at h
    cases e1 : look s j with
    | none => rw [e1] at h; cases h
    | some x =>
      cases e2 : l.mapM (look s) with
      | none => rw [e1, e2] at h; cases h
      | some xs =>
        rw [e1, e2] at h
        cases h
        cases i with
        | zero => cases e; exact ⟨j, rfl, e1⟩
        | succ i => exact mapM_get (l := l) e2 (by simpa using e)
theorem look_some {s : DS} {i : Nat} {d : D} (h : look s i = some d) : s[i]? = some (some d) := by
  unfold look at h
  split at h
  · rename_i e; cases h; exact e
  · cases h
def pkOf (ps : List Kd) (i : Nat) : Option Kd := match ps[i]? with
  | some (.pm k) => some k
  | _ => none
theorem pkOf_some {ps : List Kd} {i : Nat} {k : Kd} (h : pkOf ps i = some k) : ps[i]? = some (.pm k) := by
  unfold pkOf at h
  split at h
  · rename_i e; cases h; exact e
  · cases h
theorem pkOf_of {ps : List Kd} {i : Nat} {k : Kd} (h : ps[i]? = some (.pm k)) : pkOf ps i = some k := by unfold pkOf; rw [h]
section
variable {K : Fg} {mg : Str → Option Value} {ps : List Kd} {rk : Kd}
theorem body_okH {t : TS} {b : MS} {N : List Str} {O0 O1 : List Kd} {vs : List V} {H : Hp} {Q : VK} (hO : O0 = ps ++ List.replicate (N.length - ps.length) .sh)
    (E : XK) (h : ∀ c : Ctx, c.ps = (ps, []) → c.rk = rk → c.mg = mg → c.Ox = none → (c.W = fun cls d _ H => E cls d H) → (c.hx = false ∧ c.pk = pkOf ps ∧ ∀ i q, c.ow i q → isPm ps[i]? = true) → DC K c [] O0 t b O1) (sp : spD K mg (fnD N.length ps.length rk b) ps rk vs H Q E) (hN : ps.length ≤ N.length) : t { nx := fun _ H' => Q .non H', rt := Q } (L2.start N vs) H := by
  obtain ⟨F, fps, args, A, q⟩ := sp
  let c : Ctx := { F0 := F, H0 := fun b => open Classical in if Mv ps fps b then none else H b, ow := fun i q => q ∈ fps i ∧ isPm ps[i]? = true, ps := (ps, []), pk := pkOf ps, rk := rk, arg := fun i => vs.getD i .non, mg := mg, W := fun cls d _ H => E cls d H, Ox := none, hx := false }
  have hO0 : ∀ i, i < ps.length → O0[i]? = ps[i]? := fun i hi => by rw [hO, List.getElem?_append_left hi]
  have hpl : ∀ i, isPm ps[i]? = true → i < ps.length := fun i hi => by
    cases Nat.lt_or_ge i ps.length with
    | inl h => exact h
    | inr h => rw [List.getElem?_eq_none h] at hi; cases hi
  have hst : ∀ i v, vs[i]? = some v → (L2.start N vs)[i]? = some (some v) := fun i v hv => by
    unfold L2.start
    have hi : i < vs.length := (List.getElem?_eq_some_iff.mp hv).1
    rw [List.getElem?_append_left (by simpa using hi), List.getElem?_map, hv]
    rfl
  have hS : ∀ b o, c.H0 b = some o → H b = some o := fun b o e => by
    have e' : (open Classical in if Mv ps fps b then none else H b) = some o := e
    split at e'
    · cases e'
    · exact e'
  have hN0 : ∀ b, H b = none → c.H0 b = none := fun b e => by
    show (open Classical in if Mv ps fps b then none else H b) = none
    split
    · rfl
    · exact e
  have hN1 : ∀ b, c.H0 b = none → H b = none ∨ Mv ps fps b := fun b e => by
    have e' : (open Classical in if Mv ps fps b then none else H b) = none := e
    split at e'
    · rename_i z; exact .inr z
    · exact .inl e'
  have hr : Rel K c O0 F H (L2.start N vs) fps (entry N.length args) := by
    refine ⟨A.sub, Same.refl _, fun b o e _ => hS b o e, fun b e => hN0 b e, fun b o e => .inl e, fun i d' hd => ?_, fun i q hq => ?_, A.nd, A.dj, fun i k hk => ?_, ?_⟩
    · have hi : args[i]? = some d' := by
        unfold entry at hd
        by_cases hi : i < args.length
        · rw [List.getElem?_append_left (by simpa using hi), List.getElem?_map] at hd
          cases z : args[i]? with
          | none => rw [z] at hd; cases hd
          | some x => rw [z] at hd; cases hd; rfl
        · rw [List.getElem?_append_right (by simpa using hi), List.getElem?_replicate] at hd
          split at hd <;> cases hd
      obtain ⟨v, hv, ow⟩ := A.ow i d' hi
      refine ⟨v, hst i v hv, ?_⟩
      have hl : i < ps.length := by rw [← A.la]; exact (List.getElem?_eq_some_iff.mp hi).1
      rw [List.getD_eq_getElem?_getD, hO0 i hl, ← List.getD_eq_getElem?_getD]
      exact ow
    · obtain ⟨h1, h2⟩ := A.off i q hq
      refine ⟨h1, h2, ?_⟩
      cases h3 : isPm ps[i]? with
      | true => exact .inr ⟨⟨hq, h3⟩, by rw [hO0 i (hpl i h3)]; exact h3⟩
      | false => exact .inl (show (open Classical in if Mv ps fps q then none else H q) = none from if_pos ⟨i, hq, h3⟩)
    · have hk := pkOf_some hk
      have hl : i < ps.length := (List.getElem?_eq_some_iff.mp hk).1
      refine ⟨⟨k, by rw [hO0 i hl]; exact hk, .inl rfl⟩, ?_⟩
      have hv : i < vs.length := by rw [A.lv]; exact hl
      have e1 : vs[i]? = some (vs.getD i .non) := by rw [List.getD_eq_getElem?_getD, List.getElem?_eq_getElem hv]; rfl
      exact hst i _ e1
    · unfold L2.start entry
      rw [List.length_append, List.length_append, List.length_map, List.length_map, List.length_replicate, List.length_replicate, A.lv, A.la]
  refine (h c rfl rfl rfl rfl rfl ⟨rfl, rfl, fun i q h => h.2⟩).run hr _ ?_
  unfold fnD at q
  rw [if_pos A.la] at q
  have outB : ∀ {s : DS} {F' H' : Hp} {σ' : St} {fps' : Nat → List Addr} {O'' : List Kd} {as : List D}, (List.range ps.length).mapM (look s) = some as → Rel K c O'' F' H' σ' fps' s → OutB K ps F H F' H' vs fps fps' as := fun {s F' H' σ' fps' O'' as} has r' => by
      refine ⟨r'.base, r'.sub, fun b o hb hn => r'.keep b o (by show (open Classical in if Mv ps fps b then none else H b) = some o; rw [if_neg fun ⟨i, hi, _⟩ => hn i hi]; exact hb) (fun ⟨i, hi, _⟩ => hn i hi), fun b e => hN1 b (r'.live b e), fun b o e => (r'.new b o e).imp id (hN1 b), fun i k e he hae => ?_, fun i q' hi hq => ?_, r'.nd, r'.dj⟩
      · obtain ⟨j, hj, lk⟩ := mapM_get has hae
        have hij : j = i := by
          rw [List.getElem?_range] at hj
          · cases hj; rfl
          · exact (List.getElem?_eq_some_iff.mp he).1
        subst hij
        obtain ⟨u, hu, w⟩ := r'.slots j e (look_some lk)
        obtain ⟨⟨k2, p1, pz⟩, p2⟩ := r'.par j k (pkOf_of he)
        obtain rfl : k2 = k := pz.resolve_right fun z => Bool.noConfusion z.1
        rw [p2] at hu
        cases hu
        have hv : j < vs.length := by rw [A.lv]; exact (List.getElem?_eq_some_iff.mp he).1
        have ev : vs[j]? = some (vs.getD j .non) := by rw [List.getD_eq_getElem?_getD, List.getElem?_eq_getElem hv]; rfl
        refine ⟨_, ev, ?_⟩
        rw [List.getD_eq_getElem?_getD, p1] at w
        exact w
      · obtain ⟨h1, h2, h3⟩ := r'.off i q' hq
        refine ⟨h1, h2, ?_⟩
        rcases h3 with h3 | ⟨⟨hj, _⟩, _⟩
        · exact (hN1 q' h3).imp id .inl
        · exact .inr (.inr hj)
  cases eb : b (entry N.length args) with
  | rt d' s =>
    rw [eb] at q
    dsimp only [leave] at q
    cases has : (List.range ps.length).mapM (look s) with
    | none => simp only [has] at q
    | some as =>
      simp only [has] at q
      exact fun F' H' σ' fps' O'' v fpv s' r' ow hf nd => q F' H' fps' v fpv ⟨outB has r', ow, fun q hq => ⟨(hf q hq).1, (hf q hq).2.1, hN1 q (hf q hq).2.2.1, fun i hi => (hf q hq).2.2.2 i (.inl hi)⟩, nd⟩
  | ex x s =>
    rw [eb] at q
    dsimp only [leaveX] at q
    cases has : (List.range ps.length).mapM (look s) with
    | none => simp only [has] at q
    | some as =>
      simp only [has] at q
      exact fun F' H' σ' fps' O'' cls dd _ s' r' xo => q F' H' fps' cls dd (outB has r') xo
  | nx s =>
    rw [eb] at q
    dsimp only at q
    by_cases hk : rk = .sh
    · rw [if_pos hk] at q
      unfold leave at q
      cases has : (List.range ps.length).mapM (look s) with
      | none => simp only [has] at q
      | some as =>
        simp only [has] at q
        exact fun F' H' σ' fps' s' r' => q F' H' fps' _ [] ⟨outB has r', by rw [hk]; exact ⟨rfl, .non⟩, fun q hq => absurd hq (by simp), by simp⟩
    · rw [if_neg hk] at q; exact q.elim
  | bk s => rw [eb] at q; exact q.elim
  | ct s => rw [eb] at q; exact q.elim
  | no => rw [eb] at q; exact q.elim
theorem body_ok {t : TS} {b : MS} {N : List Str} {O0 O1 : List Kd} {vs : List V} {H : Hp} {Q : VK} (hO : O0 = ps ++ List.replicate (N.length - ps.length) .sh)
    (E : XK) (h : ∀ c : Ctx, c.ps = (ps, []) → c.rk = rk → c.mg = mg → c.Ox = none → (c.W = fun cls d _ H => E cls d H) → DC K c [] O0 t b O1) (sp : spD K mg (fnD N.length ps.length rk b) ps rk vs H Q E) (hN : ps.length ≤ N.length) : t { nx := fun _ H' => Q .non H', rt := Q } (L2.start N vs) H :=
  body_okH hO E (fun c h1 h2 h3 h4 h5 _ => h c h1 h2 h3 h4 h5) sp hN
theorem spD_len {f : FD} {vs : List V} {H : Hp} {Q : VK} {E : XK} (h : spD K mg f ps rk vs H Q E) : vs.length = ps.length := by
  obtain ⟨_, _, _, A, _⟩ := h
  exact A.lv
section
variable {c : Ctx} {O : List Kd} {F H F' H' : Hp} {σ : St} {fps fps' gps gps' : Nat → List Addr} {ds : DS} {args' : List D} {vs : List V} {v : V} {d : D} {fpv : List Addr}
theorem Rel.call0 (r : Rel K c O F H σ fps ds) (o : OutB K ps F H F' H' vs (fun _ => []) gps' args') : Rel K c O F' H' σ fps ds := by
  have hk : ∀ b u, H b = some u → H' b = some u := fun b u e => o.keep b u e (fun _ => by simp)
  have hF : ∀ q, F q = none → H q ≠ none → F' q = none := fun q h1 h2 => by
    cases z : F' q with
    | none => rfl
    | some u =>
      rcases o.new0 mv_nil q u z with h | h
      · rw [h1] at h; cases h
      · exact absurd h h2
  refine ⟨o.sub, r.base.trans o.ext, fun b u e n => hk b u (r.keep b u e n), fun b e => r.live b (o.live0 mv_nil b e), fun b u e => ?_, fun i e he => ?_, fun i q hq => ?_, r.nd, r.dj, r.par, r.len⟩
  · rcases o.new0 mv_nil b u e with h | h
    · exact r.new b u h
    · exact .inr (r.live b h)
  · obtain ⟨w, hw, ow⟩ := r.slots i e he
    refine ⟨w, hw, ow_mono o.ext ow fun q hq => ?_⟩
    cases z : H q with
    | none => exact absurd z (r.off i q hq).2.1
    | some u => exact hk q u z
  · obtain ⟨h1, h2, h3⟩ := r.off i q hq
    refine ⟨hF q h1 h2, fun z => h2 (o.live0 mv_nil q z), h3⟩
theorem Rel.call1 (r : Rel K c O F H σ fps ds) {j : Nat} {k : Kd} {w : V} {e e' : D} (o : OutB K (.pm k :: ps) F H F' H' (w :: vs) (fun i => if i = 0 then fps j else []) gps' (e' :: args'))
    (hj : ds[j]? = some (some e)) (hw : σ[j]? = some (some w)) (hk : O.getD j .sh = k ∨ O.getD j .sh = .pm k) : Rel K c O F' H' σ (fun i => if i = j then gps' 0 else fps i) (ds.set j (some e')) := by
  have hkp : ∀ b u, H b = some u → b ∉ fps j → H' b = some u := fun b u e hn => o.keep b u e (fun i => by
    by_cases z : i = 0
    · simp only [z, if_pos]; exact hn
    · simp only [if_neg z]; simp)
  have hF : ∀ q, F q = none → H q ≠ none → F' q = none := fun q h1 h2 => by
    cases z : F' q with
    | none => rfl
    | some u =>
      rcases o.new0 mv_one q u z with h | h
      · rw [h1] at h; cases h
      · exact absurd h h2
  have hl : j < ds.length := (List.getElem?_eq_some_iff.mp hj).1
  have hg : ∀ q, q ∈ gps' 0 → F' q = none ∧ H' q ≠ none ∧ (H q = none ∨ q ∈ fps j) := fun q hq => by
    obtain ⟨h1, h2, h3⟩ := o.off 0 q rfl hq
    refine ⟨h1, h2, ?_⟩
    rcases h3 with h3 | h3 | h3
    · exact .inl h3
    · exact absurd h3 (mv_one q)
    · simp only [if_pos] at h3; exact .inr h3
  have hdj : ∀ i, i ≠ j → ∀ q, q ∈ gps' 0 → q ∉ fps i := fun i hi q hq hq' => by
    rcases (hg q hq).2.2 with h | h
    · exact (r.off i q hq').2.1 h
    · exact r.dj j i (Ne.symm hi) q h hq'
  refine ⟨o.sub, r.base.trans o.ext, fun b u e n => ?_, fun b e => r.live b (o.live0 mv_one b e), fun b u e => ?_, fun i x hx => ?_, fun i q hq => ?_, fun i => ?_, fun i l hil q hq hq' => ?_, r.par, by rw [List.length_set]; exact r.len⟩
  · refine hkp b u (r.keep b u e n) fun hb => ?_
    rcases (r.off j b hb).2.2 with h | ⟨h, _⟩
    · rw [h] at e; cases e
    · exact n ⟨_, h⟩
  · rcases o.new0 mv_one b u e with h | h
    · exact r.new b u h
    · exact .inr (r.live b h)
  · by_cases z : i = j
    · subst z
      rw [List.getElem?_set_self hl] at hx
      cases hx
      obtain ⟨u, hu, ow⟩ := o.ow 0 k e' rfl rfl
      cases hu
      refine ⟨w, hw, ?_⟩
      simp only [if_pos]
      rcases hk with h | h
      · rw [h]; exact ow
      · rw [h]; exact ow
    · rw [List.getElem?_set_ne (Ne.symm z)] at hx
      obtain ⟨u, hu, ow⟩ := r.slots i x hx
      refine ⟨u, hu, ?_⟩
      simp only [if_neg z]
      refine ow_mono o.ext ow fun q hq => ?_
      cases y : H q with
      | none => exact absurd y (r.off i q hq).2.1
      | some u => exact hkp q u y fun hb => r.dj i j z q hq hb
  · by_cases z : i = j
    · subst z
      simp only [if_pos] at hq
      obtain ⟨h1, h2, h3⟩ := hg q hq
      refine ⟨h1, h2, ?_⟩
      rcases h3 with h3 | h3
      · exact .inl (r.live q h3)
      · exact (r.off i q h3).2.2
    · simp only [if_neg z] at hq
      obtain ⟨h1, h2, h3⟩ := r.off i q hq
      exact ⟨hF q h1 h2, fun y => h2 (o.live0 mv_one q y), h3⟩
  · by_cases z : i = j
    · simp only [z, if_pos]; exact o.nd 0
    · simp only [if_neg z]; exact r.nd i
  · by_cases z : i = j
    · by_cases z' : l = j
      · exact hil (z.trans z'.symm)
      · simp only [z, if_pos] at hq
        simp only [if_neg z'] at hq'
        exact hdj l z' q hq hq'
    · simp only [if_neg z] at hq
      by_cases z' : l = j
      · simp only [z', if_pos] at hq'
        exact hdj i z q hq' hq
      · simp only [if_neg z'] at hq'
        exact r.dj i l hil q hq hq'
theorem args_sh {es : List D} (hs : ps.all (· == .sh) = true) (sF : Same F H) (al : DpAll K F vs es) (hl : es.length = ps.length) : ArgR K ps F H vs (fun _ => []) es := by
  refine ⟨(dpa_len al).trans hl, hl, sF, fun i d' hd => ?_, fun i q hq => absurd hq (by simp), fun _ => by simp, fun _ _ _ _ hq => absurd hq (by simp)⟩
  obtain ⟨u, hu, dp⟩ := dpa_get al hd
  have : ps.getD i .sh = .sh := by
    rw [List.getD_eq_getElem?_getD]
    cases z : ps[i]? with
    | none => rfl
    | some k =>
      have := List.all_eq_true.mp hs k (List.mem_of_getElem? z)
      simpa using this
  exact ⟨u, hu, by rw [this]; exact ⟨rfl, dp⟩⟩
theorem args_o {es : List D} {k : Kd} {w : V} {e : D} {fp : List Addr} (hs : ps.all (· == .sh) = true) (sF : Same F H) (al : DpAll K F vs es) (hl : es.length = ps.length) (ow : Ow K F H k w e fp) (hf : ∀ q ∈ fp, F q = none ∧ H q ≠ none) (nd : fp.Nodup) :
    ArgR K (.pm k :: ps) F H (w :: vs) (fun i => if i = 0 then fp else []) (e :: es) := by
  have A := args_sh hs sF al hl
  refine ⟨by simp only [List.length_cons, A.lv], by simp only [List.length_cons, hl], sF, fun i d' hd => ?_, fun i q hq => ?_, fun i => ?_, fun i j hij q hq hq' => ?_⟩
  · cases i with
    | zero => cases hd; exact ⟨w, rfl, ow⟩
    | succ i =>
      obtain ⟨u, hu, o⟩ := A.ow i d' (by simpa using hd)
      exact ⟨u, by simpa using hu, by simpa using o⟩
  · by_cases z : i = 0
    · subst z
      simp only [if_pos] at hq
      exact hf q hq
    · simp only [if_neg z] at hq
      exact absurd hq (by simp)
  · by_cases z : i = 0
    · simp only [z, if_pos]; exact nd
    · simp only [if_neg z]; simp
  · by_cases z : i = 0
    · by_cases z' : j = 0
      · exact hij (z.trans z'.symm)
      · simp only [if_neg z'] at hq'
        exact absurd hq' (by simp)
    · simp only [if_neg z] at hq
      exact absurd hq (by simp)
end
def mCall (f : FD) (n : Nat) (ml : M (List D)) : M D := bnd ml fun xs => fun s => if xs.length = n then (match f xs with
  | .ok d _ => .ok d s
  | _ => .no) else .no
def mCall1 (f : FD) (n j : Nat) (ml : M (List D)) : M D := fun s => match s[j]? with
  | some (some _) => bnd ml (fun xs => fun s' => match s'[j]? with
    | some (some e) => if xs.length = n then (match f (e :: xs) with
      | .ok d (e' :: _) => .ok d (s'.set j (some e'))
      | _ => .no) else .no
    | _ => .no) s
  | _ => .no
def mCallT (f : FD) (n : Nat) (m0 : M D) (ml : M (List D)) : M D := bnd m0 fun e => bnd ml fun xs => fun s => if xs.length = n then (match f (e :: xs) with
  | .ok d (_ :: _) => .ok d s
  | _ => .no) else .no
section
variable {c : Ctx} {O : List Kd} {tl : TA} {ml : M (List D)} {f : FD} {E : XK} {te : TE} {m : M D}
theorem o_call (h : DA K c O tl ml) (hs : ps.all (· == .sh) = true := by rfl) : DO K c O rk (tCall (spD K mg f ps rk) [] E tl) (mCall f ps.length ml) := ⟨fun {F H σ fps ds ds' d} r e Q q => by
  obtain ⟨xs, s1, e1, g1⟩ := bnd_ok e
  split at g1
  · rename_i hl
    split at g1
    · rename_i d0 as hf
      cases g1
      refine h.run r e1 _ fun F1 H1 fps1 vs sF r1 al => ?_
      rw [List.append_nil]
      refine spD_ok (args_sh hs r1.sub al hl) hf fun F' H' fps' v fpv o => ?_
      refine q F' H' fps1 v fpv (sF.trans o.ext) (r1.call0 o.toOutB) o.res (fun q hq => ?_) o.rnd
      obtain ⟨h1, h2, h3, h4⟩ := o.roff0 mv_nil q hq
      exact ⟨h1, h2, r1.live q h3, fun i hi => (r1.off i q hi).2.1 h3⟩
    · cases g1
  · cases g1⟩
theorem o_call1 (j : Nat) {k : Kd} (h : DA K c O tl ml) (hk : O.getD j .sh = k ∨ O.getD j .sh = .pm k) (hs : ps.all (· == .sh) = true := by rfl) : DO K c O rk (tCall (spD K mg f (.pm k :: ps) rk) [] E (tCons (tVar j) tl)) (mCall1 f ps.length j ml) := ⟨fun {F H σ fps ds ds' d} r e Q q => by
  unfold mCall1 at e
  split at e
  · rename_i e0 he0
    obtain ⟨xs, s1, e1, g1⟩ := bnd_ok e
    obtain ⟨w, hw, _⟩ := r.slots j _ he0
    refine ⟨w, hw, ?_⟩
    split at g1
    · rename_i e2 he2
      split at g1
      · rename_i hl
        split at g1
        · rename_i d0 e' as hf
          cases g1
          refine h.run r e1 _ fun F1 H1 fps1 vs sF r1 al => ?_
          show spD K mg f (k.pm :: ps) rk ((w :: vs) ++ []) H1 Q E
          rw [List.append_nil]
          obtain ⟨w1, hw1, ow⟩ := r1.slots j _ he2
          rw [hw] at hw1
          cases hw1
          have ow' : Ow K F1 H1 k w e2 (fps1 j) := by
            rcases hk with h | h
            · rw [h] at ow; exact ow
            · rw [h] at ow; exact ow
          refine spD_ok (args_o hs r1.sub al hl ow' (fun q hq => ⟨(r1.off j q hq).1, (r1.off j q hq).2.1⟩) (r1.nd j)) hf fun F' H' fps' v fpv o => ?_
          refine q F' H' _ v fpv (sF.trans o.ext) (r1.call1 o.toOutB he2 hw hk) o.res (fun q hq => ?_) o.rnd
          obtain ⟨h1, h2, h3, h4⟩ := o.roff0 mv_one q hq
          refine ⟨h1, h2, r1.live q h3, fun i hi => ?_⟩
          by_cases z : i = j
          · simp only [z, if_pos] at hi
            exact h4 0 rfl hi
          · simp only [if_neg z] at hi
            exact (r1.off i q hi).2.1 h3
        · cases g1
      · cases g1
    · cases g1
  · cases e⟩
theorem DO.e (h : DO K c O (.ls .sh) te m) : DE K c O te m := ⟨fun {F H σ fps ds ds' d} r e Q q => by
  refine h.run r e _ fun F1 H1 fps1 v fpv sF r1 ow hf nd => ?_
  obtain ⟨p, xs, es, rfl, rfl, hp, rfl, al⟩ := ow_ls rfl ow
  obtain ⟨h1, h2, h3, h4⟩ := hf p (by simp)
  have s2 : Same F1 (upd F1 p (.lst xs)) := same_upd h1
  refine q (upd F1 p (.lst xs)) H1 fps1 _ (sF.trans s2) ⟨fun b o e => ?_, r1.base.trans s2, r1.keep, r1.live, fun b o e => ?_, fun i d hd => ?_, fun i q hq => ?_, r1.nd, r1.dj, r1.par, r1.len⟩ (frz_sh hp al h1)
  · by_cases hb : b = p
    · subst hb; rw [upd_same] at e; rw [hp]; exact e
    · rw [upd_ne hb] at e; exact r1.sub b o e
  · by_cases hb : b = p
    · subst hb; exact .inr h3
    · rw [upd_ne hb] at e; exact r1.new b o e
  · obtain ⟨u, hu, w⟩ := r1.slots i d hd
    exact ⟨u, hu, ow_mono s2 w fun _ _ => rfl⟩
  · have hb : q ≠ p := fun z => by subst z; exact h4 i hq
    rw [upd_ne hb]
    exact r1.off i q hq⟩
theorem DO.sh (h : DO K c O .sh te m) : DE K c O te m := ⟨fun {F H σ fps ds ds' d} r e Q q => h.run r e _ fun F1 H1 fps1 v fpv sF r1 ow hf nd => q F1 H1 fps1 v sF r1 ow.2⟩
noncomputable def Ctx.from (c : Ctx) (O : List Kd) (F H : Hp) (fps : Nat → List Addr) : Ctx where
  F0 := F
  H0 := fun b => open Classical in if ∃ i, b ∈ fps i ∧ isPm O[i]? = false then none else H b
  ow := fun i b => b ∈ fps i ∧ isPm O[i]? = true
  ps := c.ps
  pk := c.pk
  rk := c.rk
  arg := c.arg
  mg := c.mg
  W := c.W
  Ox := c.Ox
  hx := c.hx
section
variable {F1 H1 F2 H2 : Hp} {σ : St} {fps1 fps2 : Nat → List Addr} {ds1 ds2 : DS}
theorem from_none {b : Addr} (h : (c.from O F1 H1 fps1).H0 b = none) : (∃ i, b ∈ fps1 i ∧ isPm O[i]? = false) ∨ H1 b = none := by
  by_cases z : ∃ i, b ∈ fps1 i ∧ isPm O[i]? = false
  · exact .inl z
  · right
    have : (c.from O F1 H1 fps1).H0 b = H1 b := if_neg z
    rw [← this]; exact h
theorem from_some {b : Addr} (h : ¬ ∃ i, b ∈ fps1 i ∧ isPm O[i]? = false) : (c.from O F1 H1 fps1).H0 b = H1 b := if_neg h
theorem Rel.focus (r : Rel K c O F1 H1 σ fps1 ds1) : Rel K (c.from O F1 H1 fps1) O F1 H1 σ fps1 ds1 := by
  refine ⟨r.sub, Same.refl _, fun b o e _ => ?_, fun b e => ?_, fun b o e => .inl e, r.slots, fun i q hq => ?_, r.nd, r.dj, r.par, r.len⟩
  · by_cases z : ∃ i, b ∈ fps1 i ∧ isPm O[i]? = false
    · have : (c.from O F1 H1 fps1).H0 b = none := if_pos z
      rw [this] at e; cases e
    · rw [from_some z] at e; exact e
  · by_cases z : ∃ i, b ∈ fps1 i ∧ isPm O[i]? = false
    · exact if_pos z
    · rw [from_some z]; exact e
  · obtain ⟨h1, h2, _⟩ := r.off i q hq
    refine ⟨h1, h2, ?_⟩
    cases z : isPm O[i]? with
    | true => exact .inr ⟨⟨hq, z⟩, rfl⟩
    | false => exact .inl (if_pos ⟨i, hq, z⟩)
theorem Rel.unfocus (r : Rel K c O F1 H1 σ fps1 ds1) (r2 : Rel K (c.from O F1 H1 fps1) O F2 H2 σ fps2 ds2) : Rel K c O F2 H2 σ fps2 ds2 := by
  have hn : ∀ b, (c.from O F1 H1 fps1).H0 b = none → c.H0 b = none := fun b h => by
    rcases from_none h with ⟨i, hi, hp⟩ | h
    · rcases (r.off i b hi).2.2 with h | ⟨_, h⟩
      · exact h
      · rw [hp] at h; cases h
    · exact r.live b h
  refine ⟨r2.sub, r.base.trans r2.base, fun b o e n => ?_, fun b e => hn b (r2.live b e), fun b o e => ?_, r2.slots, fun i q hq => ?_, r2.nd, r2.dj, r.par, r2.len⟩
  · have hb : ∀ i, b ∉ fps1 i := fun i hi => by
      rcases (r.off i b hi).2.2 with h | ⟨h, _⟩
      · rw [h] at e; cases e
      · exact n ⟨_, h⟩
    refine r2.keep b o ?_ (fun ⟨i, hi, _⟩ => hb i hi)
    rw [from_some (fun ⟨i, hi, _⟩ => hb i hi)]
    exact r.keep b o e n
  · rcases r2.new b o e with h | h
    · exact r.new b o h
    · exact .inr (hn b h)
  · obtain ⟨h1, h2, h3⟩ := r2.off i q hq
    refine ⟨h1, h2, ?_⟩
    rcases h3 with h3 | ⟨⟨hj, _⟩, h3⟩
    · exact .inl (hn q h3)
    · exact (r.off i q hj).2.2
end
end
end
end Z
set_option Elab.async false
set_option linter.all false
set_option maxRecDepth 100000
namespace Z
open PySem L2
theorem Vw.tupF {K : Fg} {F H : Hp} {v : V} {ds : List D} (h : Vw K F H v (.tuple ds)) : Dp K F v (.tuple ds) := by
  rcases h with h | ⟨_, _, _, _, z, _⟩
  · exact h
  · cases z
def rCatL (K : Fg) : R2 := fun x y H Q => ∃ l b xs zs, x = .ref l ∧ y = .ref b ∧ SqL K H l xs ∧ SqL K H b zs ∧ xs.length + zs.length ≤ sizeLine ∧ ∀ p, H p = none → Q (.ref p) (upd H p (.lst (xs ++ zs)))
theorem op_catL {X : Cx} : OpR X (binaryOp .Add) (rCatL X.K) := by
  intro pins s σ H x y v u Q I rx ry h
  obtain ⟨l, b, xs, zs, rfl, rfl, hH, hB, hz, q⟩ := h
  cases rx
  cases ry
  obtain ⟨its, r, ⟨o1, n1, e1, c1, d1, s1⟩, z1⟩ := I.list hH
  obtain ⟨its2, r2, ⟨o2, n2, e2, c2, d2, s2⟩, z2⟩ := I.list hB
  obtain ⟨cls, dd, data, sl⟩ := o1
  obtain ⟨cls2, dd2, data2, sl2⟩ := o2
  simp only at c1 d1 s1 c2 d2 s2
  subst c1 d1 s1 c2 d2 s2
  have ea : its.toArray ++ its2.toArray = (its ++ its2).toArray := by simp
  refine PySem.concat_meets ⟨_, e1, rfl⟩ ⟨_, e2, rfl⟩ PySem.noFill_list_add PySem.seq_list_add PySem.F.slot_list_add PySem.F.entry_list_add (PySem.F.args_list_add_2 _ _) (PyProof.Rows.list_addW l b its.toArray its2.toArray n1 n2 none none sl sl2 (by rw [List.size_toArray, List.size_toArray, ← r.length, ← r2.length]; exact hz)) ⟨e1, e2, ?_⟩
  rw [ea]
  exact ⟨.ref _, _, I.lnew (t' := s.toks) (r.append r2) (by rw [List.length_append]; exact hz), rfl, q _ I.fresh⟩
section
variable {K : Fg}
def rAddU (K : Fg) : R2 := fun x y H Q => (rI0 (fun i j => .int (i + j))) x y H Q ∨ (fun x y H Q => (fun x y H Q => ∃ i j, x = V.str i ∧ y = V.str j ∧ i.length + j.length ≤ sizeLine ∧ Q (V.str (i ++ j)) H) x y H Q ∨ (fun x y H Q => rCatL K x y H Q ∨ rCatA K x y H Q) x y H Q) x y H Q
theorem op_addU {X : Cx} : OpR X (binaryOp .Add) (rAddU X.K) := op_add.or (op_add_str.or (op_catL.or op_catA))
def addD : D → D → Option D
  | .int i, .int j => some (.int (i + j))
  | .str x, .str y => if fits (x.length + y.length) then some (.str (x ++ y)) else none
  | .list xs, .list ys => if fits (xs.length + ys.length) then some (.list (xs ++ ys)) else none
  | .tuple xs, .tuple ys => if fits (xs.length + ys.length) then some (.tuple (xs ++ ys)) else none
  | _, _ => none
theorem g_add : OpG K (rAddU K) addD := fun F H x y dx dy d sF vx vy e Q q => by
  unfold addD at e
  split at e
  · cases e
    rw [vx.int, vy.int]
    exact .inl ⟨_, _, rfl, rfl, q F H _ .refl (.int _)⟩
  · split at e
    · rename_i hf
      cases e
      rw [vx.str, vy.str]
      exact .inr (.inl ⟨_, _, rfl, rfl, fits_of hf, q F H _ .refl (.str _)⟩)
    · cases e
  · split at e
    · rename_i hf
      cases e
      obtain ⟨p, xs, rfl, s1, a1⟩ := vx.lst sF
      obtain ⟨p2, xs2, rfl, s2, a2⟩ := vy.lst sF
      refine .inr (.inr (.inl ⟨p, p2, xs, xs2, rfl, rfl, s1, s2, by rw [dpa_len a1, dpa_len a2]; exact fits_of hf, fun r hr => ?_⟩))
      have hF := sF.free hr
      exact q _ _ _ (.new _ hr) (.lst (SqL.of upd_same) (dpa_mono (same_upd hF) (dpa_append a1 a2)))
    · cases e
  · split at e
    · rename_i hf
      cases e
      obtain ⟨p, xs, rfl, s1, a1⟩ := vx.tup sF
      obtain ⟨p2, xs2, rfl, s2, a2⟩ := vy.tup sF
      have k1 := vx.tupF
      have k2 := vy.tupF
      refine .inr (.inr (.inr ⟨p, p2, xs, xs2, rfl, rfl, s1, s2, by rw [dpa_len a1, dpa_len a2]; exact fits_of hf, fun h => ?_, fun _ h => ?_, fun _ _ r hr => ?_⟩))
      · subst h
        cases a1
        exact q F H _ .refl k2
      · subst h
        cases a2
        rw [List.append_nil] at q
        exact q F H _ .refl k1
      · have hF := sF.free hr
        exact q _ _ _ (.new _ hr) (.tup (SqT.of upd_same) (dpa_mono (same_upd hF) (dpa_append a1 a2)))
    · cases e
  · cases e
def nonB : D → Bool
  | .none => true
  | _ => false
def isN : D → D → Option D
  | x, .none => some (.bool (nonB x))
  | _, _ => none
def notN : D → D → Option D
  | x, .none => some (.bool (!nonB x))
  | _, _ => none
theorem vw_non {F H : Hp} {x : V} {d : D} (h : Vw K F H x d) : decide (x = .non) = nonB d := by
  rcases h with h | ⟨p, xs, ds, rfl, rfl, _, _⟩
  · cases h <;> simp [nonB]
  · simp [nonB]
theorem g_isN : OpG K (fun x y H Q => y = .non ∧ Q (.bl (decide (x = .non))) H) isN := fun F H x y dx dy d sF vx vy e Q q => by
  unfold isN at e
  split at e
  · cases e
    refine ⟨vy.non, ?_⟩
    rw [vw_non vx]
    exact q F H _ .refl (.bl _)
  · cases e
theorem g_notN : OpG K (fun x y H Q => y = .non ∧ Q (.bl (!decide (x = .non))) H) notN := fun F H x y dx dy d sF vx vy e Q q => by
  unfold notN at e
  split at e
  · cases e
    refine ⟨vy.non, ?_⟩
    rw [vw_non vx]
    exact q F H _ .refl (.bl _)
  · cases e
def lenD : List D → Option D
  | [.list xs] => some (.int xs.length)
  | [.tuple xs] => some (.int xs.length)
  | [.str x] => if fits x.length then some (.int x.length) else none
  | _ => none
theorem g_len : CaG K (fun xs H Q => ∃ x n, xs = [x] ∧ LenV K x H n ∧ Q (.int n) H) lenD := fun F H xs es d sF va e Q q => by
  unfold lenD at e
  split at e
  · cases e
    cases va with
    | cons h t =>
      cases t
      obtain ⟨p, xs, rfl, s1, a1⟩ := h.lst sF
      exact ⟨_, _, rfl, .inl ⟨xs, s1, rfl⟩, by rw [dpa_len a1]; exact q F H _ .refl (.int _)⟩
  · cases e
    cases va with
    | cons h t =>
      cases t
      obtain ⟨p, xs, rfl, s1, a1⟩ := h.tup sF
      exact ⟨_, _, rfl, .inr ⟨xs, s1, rfl⟩, by rw [dpa_len a1]; exact q F H _ .refl (.int _)⟩
  · split at e
    · rename_i hf
      cases e
      cases va with
      | cons h t =>
        cases t
        rw [h.str]
        exact ⟨_, _, rfl, ⟨fits_of hf, rfl⟩, q F H _ .refl (.int _)⟩
    · cases e
  · cases e
def absD : List D → Option D
  | [.int i] => some (.int (if i < 0 then -i else i))
  | _ => none
def maxD : List D → Option D
  | [.int i, .int j] => some (.int (if j > i then j else i))
  | _ => none
def minD : List D → Option D
  | [.int i, .int j] => some (.int (if j < i then j else i))
  | _ => none
def intD : List D → Option D
  | [.int i] => some (.int i)
  | [.bool k] => some (.int (if k then 1 else 0))
  | _ => none
theorem g_toint : CaG K (fun xs H Q => (∃ i, xs = [.int i] ∧ Q (.int i) H) ∨ ∃ k, xs = [.bl k] ∧ Q (.int (if k then 1 else 0)) H) intD := fun F H xs es d sF va e Q q => by
  unfold intD at e
  split at e
  · cases e
    cases va with
    | cons h t =>
      cases t
      rw [h.int]
      exact .inl ⟨_, rfl, q F H _ .refl (.int _)⟩
  · cases e
    cases va with
    | cons h t =>
      cases t
      rw [h.bl]
      exact .inr ⟨_, rfl, q F H _ .refl (.int _)⟩
  · cases e
def listD : List D → Option D
  | [.list xs] => some (.list xs)
  | [.tuple xs] => some (.list xs)
  | _ => none
abbrev rListOf (K : Fg) : List V → Hp → VK → Prop := fun xs H Q => ∃ p ys, xs = [.ref p] ∧ (SqL K H p ys ∨ SqT K H p ys) ∧ ∀ l, H l = none → Q (.ref l) (upd H l (.lst ys))
theorem g_list : CaG K (rListOf K) listD := fun F H xs es d sF va e Q q => by
  have go : ∀ {p : Addr} {xs : List V} {ds : List D}, DpAll K F xs ds → ∀ l, H l = none → (d = .list ds) → Q (.ref l) (upd H l (.lst xs)) := fun {p xs ds} al l hl z => by
    subst z
    exact q _ _ _ (.new _ hl) (.lst (SqL.of upd_same) (dpa_mono (same_upd (sF.free hl)) al))
  unfold listD at e
  split at e
  · cases e
    cases va with
    | cons h t =>
      cases t
      obtain ⟨p, xs, rfl, s1, a1⟩ := h.lst sF
      exact ⟨p, xs, rfl, .inl s1, fun l hl => go (p := p) a1 l hl rfl⟩
  · cases e
    cases va with
    | cons h t =>
      cases t
      obtain ⟨p, xs, rfl, s1, a1⟩ := h.tup sF
      exact ⟨p, xs, rfl, .inr s1, fun l hl => go (p := p) a1 l hl rfl⟩
  · cases e
def tupleD : List D → Option D
  | [.list xs] => some (.tuple xs)
  | [.tuple xs] => some (.tuple xs)
  | _ => none
theorem g_tuple : CaG K (fun xs H Q => ∃ p ys, xs = [.ref p] ∧ ((SqL K H p ys ∧ ∀ l, H l = none → Q (.ref l) (upd H l (.tup ys))) ∨ (SqT K H p ys ∧ Q (.ref p) H))) tupleD := fun F H xs es d sF va e Q q => by
  unfold tupleD at e
  split at e
  · cases e
    cases va with
    | cons h t =>
      cases t
      obtain ⟨p, xs, rfl, s1, a1⟩ := h.lst sF
      exact ⟨p, xs, rfl, .inl ⟨s1, fun l hl => q _ _ _ (.new _ hl) (.tup (SqT.of upd_same) (dpa_mono (same_upd (sF.free hl)) a1))⟩⟩
  · cases e
    cases va with
    | cons h t =>
      cases t
      obtain ⟨p, xs, rfl, s1, a1⟩ := h.tup sF
      have k1 := h.tupF
      exact ⟨p, xs, rfl, .inr ⟨s1, q F H _ .refl k1⟩⟩
  · cases e
def tyD : D → String
  | .none => "NoneType"
  | .bool _ => "bool"
  | .int _ => "int"
  | .str _ => "str"
  | .list _ => "list"
  | .tuple _ => "tuple"
  | .dict _ => "dict"
def isiB (T : String) : D → Bool
  | .none => false
  | .bool _ => T == "bool" || T == "int"
  | .int _ => T == "int"
  | .str _ => T == "str"
  | .list _ => T == "list"
  | .tuple _ => T == "tuple"
  | .dict _ => T == "dict"
theorem dp_ty {H : Hp} {v : V} {d : D} (h : Dp K H v d) : TyX K H v (.type (tyD d)) := by
  cases h with
  | non => exact .base .non
  | bl b => exact .base (.bl b)
  | int i => exact .base (.int i)
  | str x => exact .base (.str x)
  | lst h _ =>
    rcases h with (h | ⟨o, h⟩) | ⟨o, _, _, h1, h2, _⟩
    · exact .base (.lst h)
    · exact .base (.frz h)
    · exact .kList h1 h2
  | tup h _ =>
    rcases h with (h | ⟨o, h⟩) | ⟨o, _, _, h1, h2, _⟩
    · exact .base (.tup h)
    · exact .fTuple h
    · exact .kTuple h1 h2
end
def okTy (T : String) : Bool := T == "int" || T == "bool" || T == "str" || T == "list" || T == "tuple"
theorem kit_all (T : String) (h : okTy T = true) (d : D) : kitB (tyD d) T = some (isiB T d) := by
  have hT : T = "int" ∨ T = "bool" ∨ T = "str" ∨ T = "list" ∨ T = "tuple" := by
    simp only [okTy, Bool.or_eq_true, beq_iff_eq] at h
    rcases h with (((h | h) | h) | h) | h
    · exact .inl h
    · exact .inr (.inl h)
    · exact .inr (.inr (.inl h))
    · exact .inr (.inr (.inr (.inl h)))
    · exact .inr (.inr (.inr (.inr h)))
  rcases hT with rfl | rfl | rfl | rfl | rfl <;> cases d <;> simp only [tyD, isiB] <;> decide +kernel
section
variable {K : Fg} {c : Ctx} {O : List Kd} {ta te : TE} {b1 : M BR} {m : M D}
theorem d_isi (T : String) (h : DB K c O ta b1) (hT : okTy T = true := by rfl) : DE K c O (tCB (rIsi K) (tCons ta (tCons (tC (.ty T)) tNil))) (mUn (fun d => some (.bool (isiB T d))) b1) := ⟨fun {F H σ fps ds ds' d} rl e Q q => by
  obtain ⟨x, s1, e1, g2⟩ := bnd_ok e
  refine h.run rl e1 _ fun F1 H1 fps1 v sF r1 bv => ?_
  split at g2
  · rename_i dx hx
    obtain ⟨g3, z⟩ := opt_ok g2
    subst z
    cases g3
    have dp := (Bm.vw r1 bv hx).dp r1.sub
    exact ⟨v, .ty T, _, _, isiB T dx, rfl, .ty T, dp_ty dp, kit_ty (kit_all T hT dx), q F1 H1 fps1 _ sF r1 (.bl _)⟩
  · cases g2⟩
structure DP (K : Fg) (c : Ctx) (O : List Kd) (t : TO) (m : M (Option Int)) : Prop where
  run : ∀ {F H : Hp} {σ : St} {fps : Nat → List Addr} {ds ds' : DS} {o : Option Int}, Rel K c O F H σ fps ds → m ds = .ok o ds' → ∀ Q : Option Int → Hp → Prop,
    (∀ F' H' fps', Same F F' → Rel K c O F' H' σ fps' ds' → Q o H') → t σ H Q
def mP0 : M (Option Int) := fun s => .ok none s
def mP1 (m : M D) : M (Option Int) := bnd m fun d => opt (match d with | .int i => some (some i) | _ => none)
theorem p_none : DP K c O tNoPart mP0 := ⟨fun r e Q q => by cases e; exact q _ _ _ (Same.refl _) r⟩
theorem p_some (h : DE K c O te m) : DP K c O (tPart te) (mP1 m) := ⟨fun {F H σ fps ds ds' o} r e Q q => by
  obtain ⟨d, s1, e1, g1⟩ := bnd_ok e
  obtain ⟨g2, z⟩ := opt_ok g1
  subst z
  refine h.run r e1 _ fun F1 H1 fps1 v sF r1 dp => ?_
  split at g2
  · cases g2; cases dp; exact ⟨_, rfl, q F1 H1 fps1 sF r1⟩
  · cases g2⟩
def rSlU (K : Fg) : V → Option Int → Option Int → Hp → VK → Prop := fun x lo hi H Q => rSlL K x lo hi H Q ∨ (fun x lo hi H Q => rSlA K x lo hi H Q ∨ rSlS x lo hi H Q) x lo hi H Q
theorem sl_U {X : Cx} : SlR X (rSlU X.K) := sl_list.or (sl_tupA.or sl_str)
def cutD (xs : List D) (lo hi : Option Int) : List D := (xs.drop (HT.sIx xs.length 0 lo)).take (HT.sIx xs.length xs.length hi - HT.sIx xs.length 0 lo)
def slD (x : D) (lo hi : Option Int) : Option D := match x with
  | .list xs => some (.list (cutD xs lo hi))
  | .tuple xs => some (.tuple (cutD xs lo hi))
  | .str z => if fits z.length then some (.str (cutS z lo hi)) else none
  | _ => none
def mSl (a : M BR) (lo hi : M (Option Int)) : M D := bnd a fun x => bnd lo fun l => bnd hi fun h => fun s => match res s x with
  | some d => opt (slD d l h) s
  | none => .no
theorem cut_dp {F : Hp} {xs : List V} {ds : List D} (al : DpAll K F xs ds) (lo hi : Option Int) : DpAll K F (cutV xs lo hi) (cutD ds lo hi) := by
  unfold cutV cutD
  rw [dpa_len al]
  exact dpa_take _ (dpa_drop _ al)
theorem d_sl {tl th : TO} {ml mh : M (Option Int)} (h : DB K c O ta b1) (hl : DP K c O tl ml) (hh : DP K c O th mh) : DE K c O (tSl (rSlU K) ta tl th) (mSl b1 ml mh) := ⟨fun {F H σ fps ds ds' d} r e Q q => by
  obtain ⟨x, s1, e1, g1⟩ := bnd_ok e
  obtain ⟨l, s2, e2, g2⟩ := bnd_ok g1
  obtain ⟨u, s3, e3, g3⟩ := bnd_ok g2
  refine h.run r e1 _ fun F1 H1 fps1 v sF r1 bv => ?_
  refine hl.run r1 e2 _ fun F2 H2 fps2 sF2 r2 => ?_
  refine hh.run r2 e3 _ fun F3 H3 fps3 sF3 r3 => ?_
  split at g3
  · rename_i dx hx
    obtain ⟨g4, z⟩ := opt_ok g3
    subst z
    have vw := Bm.vw r3 (bv.mono (sF2.trans sF3)) hx
    have s13 := (sF.trans sF2).trans sF3
    have fin : ∀ F' H' v, Grow F3 H3 F' H' → Dp K F' v d → Q v H' := fun F' H' v g dp => by
      obtain ⟨r4, s4⟩ := g.rel r3
      exact q F' H' fps3 v (s13.trans s4) r4 dp
    unfold slD at g4
    split at g4
    · cases g4
      obtain ⟨p, xs, rfl, sq, al⟩ := vw.lst r3.sub
      exact .inl ⟨p, xs, rfl, sq, fun p' hp => fin _ _ _ (.new _ hp) (.lst (SqL.of upd_same) (dpa_mono (same_upd (r3.sub.free hp)) (cut_dp al l u)))⟩
    · cases g4
      obtain ⟨p, xs, rfl, sq, al⟩ := vw.tup r3.sub
      have k1 := vw.tupF
      refine .inr (.inl ⟨p, xs, rfl, sq, fun hz => ?_, fun _ p' hp => fin _ _ _ (.new _ hp) (.tup (SqT.of upd_same) (dpa_mono (same_upd (r3.sub.free hp)) (cut_dp al l u)))⟩)
      rw [dpa_len al] at hz
      have hc : ∀ ys : List D, HT.sIx ys.length 0 l = 0 ∧ HT.sIx ys.length ys.length u = ys.length → cutD ys l u = ys := fun ys h => by
        unfold cutD
        rw [h.1, h.2]
        simp
      rw [hc _ hz] at fin
      exact fin _ _ _ .refl k1
    · split at g4
      · rename_i hf
        cases g4
        rw [vw.str]
        exact .inr (.inr ⟨_, rfl, fits_of hf, fin _ _ _ .refl (.str _)⟩)
      · cases g4
    · cases g4
  · cases g3⟩
structure DR (K : Fg) (c : Ctx) (O : List Kd) (t : St → Hp → (Int → Int → Hp → Prop) → Prop) (m : M (Int × Int)) : Prop where
  run : ∀ {F H : Hp} {σ : St} {fps : Nat → List Addr} {ds ds' : DS} {a b : Int}, Rel K c O F H σ fps ds → m ds = .ok (a, b) ds' → ∀ Q : Int → Int → Hp → Prop,
    (∀ F' H' fps', Same F F' → Rel K c O F' H' σ fps' ds' → Q a b H') → t σ H Q
def mRg1 (m : M D) : M (Int × Int) := bnd m fun d => opt (match d with | .int n => some (0, n) | _ => none)
def mRg2 (m n : M D) : M (Int × Int) := bnd m fun d => bnd n fun e => opt (match d, e with | .int a, .int b => some (a, b) | _, _ => none)
def rgD (a b : Int) : List D := (List.range (b - a).toNat).map fun i => .int (a + (i : Nat))
def rgC (a b : Int) : Bool := decide (-(2 ^ 62) ≤ a ∧ a < 2 ^ 62 ∧ -(2 ^ 62) ≤ b ∧ b < 2 ^ 62 ∧ (b - a).toNat ≤ 2 ^ 24)
def mLstRg (m : M (Int × Int)) : M D := bnd m fun p => opt (if rgC p.1 p.2 then some (.list (rgD p.1 p.2)) else none)
def iSeq (K : Fg) (te : TE) : TI := fun σ H R => iList K te σ H R ∨ iTup K te σ H R
theorem pi_or {X : Cx} {tg e : Expr} {w w' : TI} (h : PI X tg e w) (h' : PI X tg e w') : PI X tg e (fun σ H R => w σ H R ∨ w' σ H R) := ⟨fun pins s σ H R I q => q.elim (h.run pins s σ H R I) (h'.run pins s σ H R I)⟩
theorem pi_seq {X : Cx} {tg e : Expr} {te : TE} (h : PE X e te) : PI X tg e (iSeq X.K te) := pi_or (pi_list h) (pi_tup h)
def mIt (m : M D) : M (List D) := bnd m fun d => opt (match d with | .list xs => some xs | .tuple xs => some xs | _ => none)
theorem walk_l {F : Hp} {a : Addr} {xs : List V} {ds : List D} (hq : SqL K F a xs) (al : DpAll K F xs ds) : Walks K F (Itl K a) ds := fun F1 H1 i s1 s2 => by
  have hq1 : SqL K H1 a xs := sqL_mono (s1.trans s2) hq
  refine ⟨fun d hd => ?_, fun hi => ⟨xs, hq1, by rw [dpa_len al]; omega⟩⟩
  obtain ⟨v, hv, dp⟩ := dpa_get al hd
  exact ⟨⟨xs, v, hq1, hv⟩, fun x H2 hy => ⟨F1, by obtain ⟨e, _⟩ := hy; subst e; exact .refl, by
    obtain ⟨e, hy⟩ := hy
    have := hy xs hq1
    rw [hv] at this
    cases this
    exact dp_mono s1 dp⟩⟩
theorem walk_t {F : Hp} {a : Addr} {xs : List V} {ds : List D} (hq : SqT K F a xs) (al : DpAll K F xs ds) : Walks K F (Itt K a) ds := fun F1 H1 i s1 s2 => by
  have hq1 : SqT K H1 a xs := sqT_mono (s1.trans s2) hq
  refine ⟨fun d hd => ?_, fun hi => ⟨xs, hq1, by rw [dpa_len al]; omega⟩⟩
  obtain ⟨v, hv, dp⟩ := dpa_get al hd
  exact ⟨⟨xs, v, hq1, hv⟩, fun x H2 hy => ⟨F1, by obtain ⟨e, _⟩ := hy; subst e; exact .refl, by
    obtain ⟨e, hy⟩ := hy
    have := hy xs hq1
    rw [hv] at this
    cases this
    exact dp_mono s1 dp⟩⟩
theorem i_seq (h : DE K c O te m) : DI K c O (iSeq K te) (mIt m) := ⟨fun {F H σ fps ds ds' xs} r e R q => by
  obtain ⟨d, s1, e1, g1⟩ := bnd_ok e
  obtain ⟨g2, z⟩ := opt_ok g1
  subst z
  split at g2
  · cases g2
    refine .inl (h.run r e1 _ fun F1 H1 fps1 v sF r1 dp => ?_)
    cases dp with
    | lst hq al => exact ⟨_, rfl, ⟨_, sqL_mono r1.sub hq⟩, q F1 H1 fps1 _ sF r1 (walk_l hq al)⟩
  · cases g2
    refine .inr (h.run r e1 _ fun F1 H1 fps1 v sF r1 dp => ?_)
    cases dp with
    | tup hq al => exact ⟨_, rfl, ⟨_, sqT_mono r1.sub hq⟩, q F1 H1 fps1 _ sF r1 (walk_t hq al)⟩
  · cases g2⟩
def rngC (a b : Int) : Bool := decide (-(2 ^ 62) ≤ a ∧ a < 2 ^ 62 ∧ -(2 ^ 62) ≤ b ∧ b < 2 ^ 62)
def mR1 (m : M (List D)) : M (List D) := bnd m fun ds => opt (match ds with | [.int j] => if rngC 0 j then some (rgD 0 j) else none | _ => none)
def mR2 (m : M (List D)) : M (List D) := bnd m fun ds => opt (match ds with | [.int i, .int j] => if rngC i j then some (rgD i j) else none | _ => none)
theorem rgD_get {a b : Int} {i : Nat} {d : D} (h : (rgD a b)[i]? = some d) : i < (b - a).toNat ∧ d = .int (a + i) := by
  unfold rgD at h
  rw [List.getElem?_map] at h
  cases z : (List.range (b - a).toNat)[i]? with
  | none => rw [z] at h; cases h
  | some j =>
    rw [z] at h
    have hi : i < (b - a).toNat := by
      have := (List.getElem?_eq_some_iff.mp z).1
      simpa using this
    rw [List.getElem?_range hi] at z
    cases z
    cases h
    exact ⟨hi, rfl⟩
theorem rgD_len (a b : Int) : (rgD a b).length = (b - a).toNat := by unfold rgD; rw [List.length_map, List.length_range]
theorem walk_r {F : Hp} (a b : Int) : Walks K F (Itr a (b - a).toNat) (rgD a b) := fun F1 H1 i s1 s2 => by
  refine ⟨fun d hd => ?_, fun hi => by rw [rgD_len] at hi; exact Nat.le_of_eq hi.symm⟩
  obtain ⟨hi, rfl⟩ := rgD_get hd
  refine ⟨hi, fun x H2 hy => ?_⟩
  obtain ⟨e, rfl⟩ := hy
  subst e
  exact ⟨F1, .refl, .int _⟩
theorem i_r1 {tl : TA} {ml : M (List D)} (h : DA K c O tl ml) : DI K c O (iRng1 tl) (mR1 ml) := ⟨fun {F H σ fps ds ds' xs} r e R q => by
  obtain ⟨es, s1, e1, g1⟩ := bnd_ok e
  obtain ⟨g2, z⟩ := opt_ok g1
  subst z
  refine h.run r e1 _ fun F1 H1 fps1 vs sF r1 al => ?_
  split at g2
  · split at g2
    · rename_i hc
      cases g2
      cases al with
      | cons h1 t1 =>
        cases t1
        cases h1
        have hh := of_decide_eq_true hc
        refine ⟨_, rfl, hh.2.2.1, hh.2.2.2, q F1 H1 fps1 _ sF r1 ?_⟩
        have w := walk_r (K := K) (F := F1) 0
        rename_i j
        have w' := w j
        rw [show j - 0 = j by omega] at w'
        exact w'
    · cases g2
  · cases g2⟩
def sAug (i : Nat) (f : D → D → Option D) (m : M D) : MS := fun s => match s[i]? with
  | some (some x) => match m s with
    | .ok y s' => match f x y with
      | some z => .nx (s'.set i (some z))
      | none => .no
    | .no => .no
  | _ => .no
def sKill (i : Nat) (b : MS) : MS := fun s => b (s.set i none)
def Fk (P : Program) (w : World) (K : Fg) (mg : Str → Option Value) (base : Heap) (x : Str) (k : Nat) (ps : List Str) (sp : Sp) : Prop :=
  ∃ (f : Addr) (fd : FuncData), FnOk P w K mg base CX0 k f fd ps sp ∧ mg x = some (.ref f) ∧ PySem.W.keepIn K (.ref f) = true ∧ Binds K fd ps []
end
abbrev FnP (K : Fg) (x : Str) (st : Stmt) (f : Addr) (fd : FuncData) : Prop := FunD K x x (defArgs st) (defBody st) (defScope st) [] [] f fd
theorem fn_ok {P : Program} {w : World} {K : Fg} {mg : Str → Option Value} {base : Heap} {x : Str} {st : Stmt} {f : Addr} {fd : FuncData} {N xs : List Str} {ps : List Kd} {rk : Kd} {k : Nat} {b : MS} {O1 : List Kd} (F : FnP K x st f fd) (S : FnScope N xs (defScope st)) (hx : xs.length = ps.length) (hN : ps.length ≤ N.length)
    (h : ∀ (cdv : Value) (A : Around) (outer : List Env) (s : Shared) (H : Hp) (E : XK), Room k (A.deeper (PyProof.Rows.envOfC x (defScope st) s.heap.objs.size f cdv)) →
      ∃ t, PSs (cxOf CX0 P w K mg base N x (defScope st) f cdv A outer s H E).nox (defBody st) t ∧ ∀ c : Ctx, c.ps = (ps, []) → c.rk = rk → c.mg = mg → DC K c [] (ps ++ List.replicate (N.length - ps.length) .sh) t b O1) :
    FnOk P w K mg base CX0 (k + 1) f fd xs (spD K mg (fnD N.length ps.length rk b) ps rk) := by
  refine F.ok S (fun vs H Q E q => (spD_len q).trans hx.symm) (fun cdv A outer s H vs Q E hr q => ?_)
  obtain ⟨t, p, d⟩ := h cdv A outer s H E hr
  exact ⟨t, p.nox, body_ok rfl E (fun c h1 h2 h3 _ _ => d c h1 h2 h3) q hN⟩
def addN := i2 fun a b => some (.int (a + b))
def subN := i2 fun a b => some (.int (a - b))
end Z
set_option Elab.async false
set_option linter.all false
set_option maxRecDepth 100000
namespace Z
open PySem L2
open PyProof.Rows in theorem bt_isinstance : bootBuiltins "isinstance" = some (.builtin "isinstance") := boot_isinstance
open PyProof.Rows in theorem bt_int : bootBuiltins "int" = some (.type "int") := boot_int
open PyProof.Rows in theorem bt_bool : bootBuiltins "bool" = some (.type "bool") := boot_bool
open PyProof.Rows in theorem bt_tuple : bootBuiltins "tuple" = some (.type "tuple") := boot_tuple
open PyProof.Rows in theorem bt_list : bootBuiltins "list" = some (.type "list") := boot_list
open PyProof.Rows in theorem bt_str : bootBuiltins "str" = some (.type "str") := boot_str
open PyProof.Rows in theorem bt_len : bootBuiltins "len" = some (.builtin "len") := boot_len
open PyProof.Rows in theorem bt_abs : bootBuiltins "abs" = some (.builtin "abs") := boot_abs
open PyProof.Rows in theorem bt_max : bootBuiltins "max" = some (.builtin "max") := boot_max
open PyProof.Rows in theorem bt_min : bootBuiltins "min" = some (.builtin "min") := boot_min
open PyProof.Rows in theorem bt_sum : bootBuiltins "sum" = some (.builtin "sum") := boot_sum
open PyProof.Rows in theorem bt_sorted : bootBuiltins "sorted" = some (.builtin "sorted") := boot_sorted
def scr (ns : List Int) : D := .list (ns.map .int)
theorem scr_dp {K : Fg} {H : Hp} : ∀ ns : List Int, DpAll K H (ns.map V.int) (ns.map PyData.int)
  | [] => .nil
  | n :: r => .cons (.int n) (scr_dp r)
theorem law_sp {K : Fg} {mg : Str → Option Value} {f : FD} (h : ∀ ns : List Int, ns.length ≤ 63 → ∃ as, f [scr ns] = .ok (.bool true) as) (H : Hp) (a : Addr) (ns : List Int) (hl : ns.length ≤ 63) (hS : SqL K H a (ns.map V.int)) (E : XK) :
    spD K mg f [.sh] .sh [.ref a] H (fun v _ => v = .bl true) E := by
  obtain ⟨as, e⟩ := h ns hl
  refine spD_ok (args_sh rfl (Same.refl _) (.cons (.lst hS (scr_dp ns)) .nil) rfl) e fun F' H' fps' v fpv o => ?_
  obtain ⟨_, dp⟩ := o.res
  cases dp
  rfl
end Z
set_option Elab.async false
set_option linter.all false
set_option maxRecDepth 100000
namespace Z
open PySem L2
theorem nr {α : Sort u} {a b : α} (h : a = b) : a = b := h
def W1 {α : Sort u} (_ : α) : Type := Unit
def W2 {α : Sort u} {β : Sort v} (_ : α) (_ : β) : Type := Unit
def W5 {α : Sort u} {β : Sort v} {γ : Sort w} {δ : Sort x} {ε : Sort y} (_ : α) (_ : β) (_ : γ) (_ : δ) (_ : ε) : Type := Unit
def Ev0 {α : Type} (m : M α) (s : DS) (Q : α → DS → Prop) (_ : W2 m Q := Unit.unit) : Prop := match m s with
  | .ok a s' => Q a s'
  | .no => False
def Run0 (b : MS) (s : DS) (Nx : DS → Prop) (Rt : D → DS → Prop) (Bk Ct : DS → Prop) (Ex : Xc → DS → Prop) (_ : W5 b Nx Rt Bk (Ct, Ex) := Unit.unit) : Prop := match b s with
  | .nx s' => Nx s'
  | .rt d s' => Rt d s'
  | .bk s' => Bk s'
  | .ct s' => Ct s'
  | .ex x s' => Ex x s'
  | .no => False
def So0 {α : Type} (o : Option α) (Q : α → Prop) (_ : W1 Q := Unit.unit) : Prop := match o with
  | some a => Q a
  | none => False
theorem ev_ext_0 {α : Type} {m : M α} {s : DS} {Q Q' : α → DS → Prop} (h : ∀ a s', Q a s' = Q' a s') : Ev0 m s Q = Ev0 m s Q' := by
  have : Q = Q' := funext fun a => funext fun s' => h a s'
  rw [this]
theorem so_ext_0 {α : Type} {o : Option α} {Q Q' : α → Prop} (h : ∀ a, Q a = Q' a) : So0 o Q = So0 o Q' := by
  have : Q = Q' := funext h
  rw [this]
section
variable {α β : Type} {s : DS} {Nx Bk Ct : DS → Prop} {Ex : Xc → DS → Prop} {Rt : D → DS → Prop}
theorem so_some_0 {a : α} {Q : α → Prop} : So0 (some a) Q = Q a := nr rfl
theorem so_none_0 {Q : α → Prop} : So0 (none : Option α) Q = False := nr rfl
theorem so_if_0 {c : Bool} {o : Option α} {Q : α → Prop} : So0 (if c = true then o else none) Q = (c = true ∧ So0 o Q) := by
  cases c <;> simp [So0]
theorem so_dec_0 {c : Prop} [Decidable c] {o : Option α} {Q : α → Prop} : So0 (if c then o else none) Q = (c ∧ So0 o Q) := by
  by_cases h : c <;> simp [So0, h]
theorem ev_bnd_0 {m : M α} {f : α → M β} {Q : β → DS → Prop} : Ev0 (bnd m f) s Q = Ev0 m s fun a s' => Ev0 (f a) s' Q := by
  unfold Ev0 bnd
  cases m s <;> rfl
theorem ev_ok_0 {a : α} {Q : α → DS → Prop} : Ev0 (fun s => R.ok a s) s Q = Q a s := nr rfl
theorem ev_opt_0 {o : Option α} {Q : α → DS → Prop} : Ev0 (opt o) s Q = So0 o fun a => Q a s := by
  cases o <;> rfl
theorem ev_var_0 {i : Nat} {Q : D → DS → Prop} : Ev0 (mVar i) s Q = So0 (look s i) fun d => Q d s := by
  unfold Ev0 mVar look
  cases s[i]? with
  | none => rfl
  | some o => cases o <;> rfl
theorem ev_C_0 {d : D} {Q : D → DS → Prop} : Ev0 (mC d) s Q = Q d s := nr rfl
theorem ev_V_0 {m : M D} {Q : BR → DS → Prop} : Ev0 (mV m) s Q = Ev0 m s fun d s' => Q (.val d) s' := ev_bnd_0
theorem ev_slot_0 {i : Nat} {Q : BR → DS → Prop} : Ev0 (mSlot i) s Q = So0 (look s i) fun _ => Q (.slot i) s := by
  unfold Ev0 mSlot look
  cases s[i]? with
  | none => rfl
  | some o => cases o <;> rfl
theorem res_val {d : D} : res s (.val d) = some d := nr rfl
theorem res_slot {i : Nat} : res s (.slot i) = look s i := nr rfl
theorem ev_op_0 {f : D → D → Option D} {a b : M BR} {Q : D → DS → Prop} : Ev0 (mOp f a b) s Q = Ev0 a s fun x s1 => Ev0 b s1 fun y s2 => So0 (res s2 x) fun dx => So0 (res s2 y) fun dy => So0 (f dx dy) fun d => Q d s2 := by
  unfold mOp
  rw [ev_bnd_0]
  refine ev_ext_0 fun x s1 => ?_
  rw [ev_bnd_0]
  refine ev_ext_0 fun y s2 => ?_
  dsimp only [Ev0]
  cases res s2 x with
  | none => rfl
  | some dx =>
    cases res s2 y with
    | none => rfl
    | some dy =>
      dsimp only [So0, opt]
      cases f dx dy <;> rfl
theorem ev_un_0 {f : D → Option D} {a : M BR} {Q : D → DS → Prop} : Ev0 (mUn f a) s Q = Ev0 a s fun x s1 => So0 (res s1 x) fun dx => So0 (f dx) fun d => Q d s1 := by
  unfold mUn
  rw [ev_bnd_0]
  refine ev_ext_0 fun x s1 => ?_
  dsimp only [Ev0]
  cases res s1 x with
  | none => rfl
  | some dx =>
    dsimp only [So0, opt]
    cases f dx <;> rfl
theorem ev_B_0 {m : M D} {Q : Bool → DS → Prop} : Ev0 (mB m) s Q = Ev0 m s fun d s' => So0 (tru d) fun b => Q b s' := by
  unfold mB; rw [ev_bnd_0]; refine ev_ext_0 fun d s' => ?_; exact ev_opt_0
theorem ev_and_0 {a b : M Bool} {Q : Bool → DS → Prop} : Ev0 (mAnd a b) s Q = Ev0 a s fun x s' => if x = true then Ev0 b s' Q else Q false s' := by
  unfold mAnd; rw [ev_bnd_0]; refine ev_ext_0 fun x s' => ?_; cases x <;> rfl
theorem ev_or_0 {a b : M Bool} {Q : Bool → DS → Prop} : Ev0 (mOr a b) s Q = Ev0 a s fun x s' => if x = true then Q true s' else Ev0 b s' Q := by
  unfold mOr; rw [ev_bnd_0]; refine ev_ext_0 fun x s' => ?_; cases x <;> rfl
theorem ev_not_0 {a : M Bool} {Q : Bool → DS → Prop} : Ev0 (mNot a) s Q = Ev0 a s fun x s' => Q (!x) s' := by
  unfold mNot; rw [ev_bnd_0]; rfl
theorem ev_andV_0 {a b : M D} {Q : D → DS → Prop} : Ev0 (mAndV a b) s Q = Ev0 (mB a) s fun x s' => if x = true then Ev0 b s' Q else Q (.bool false) s' := by
  unfold mAndV; rw [ev_bnd_0]; refine ev_ext_0 fun x s' => ?_; cases x <;> rfl
theorem ev_orV_0 {a b : M D} {Q : D → DS → Prop} : Ev0 (mOrV a b) s Q = Ev0 (mB a) s fun x s' => if x = true then Q (.bool true) s' else Ev0 b s' Q := by
  unfold mOrV; rw [ev_bnd_0]; refine ev_ext_0 fun x s' => ?_; cases x <;> rfl
theorem ev_notV_0 {a : M D} {Q : D → DS → Prop} : Ev0 (mNotV a) s Q = Ev0 (mB a) s fun x s' => Q (.bool (!x)) s' := by
  unfold mNotV; rw [ev_bnd_0]; rfl
theorem ev_if_0 {t : M Bool} {a b : M D} {Q : D → DS → Prop} : Ev0 (mIf t a b) s Q = Ev0 t s fun x s' => if x = true then Ev0 a s' Q else Ev0 b s' Q := by
  unfold mIf; rw [ev_bnd_0]; refine ev_ext_0 fun x s' => ?_; cases x <;> rfl
theorem ev_chain_0 {f g : D → D → Option D} {a b c : M D} {Q : D → DS → Prop} : Ev0 (mChain f g a b c) s Q = Ev0 a s fun x s1 => Ev0 b s1 fun y s2 => So0 (f x y) fun z => So0 (tru z) fun k => if k = true then (Ev0 c s2 fun w s3 => So0 (g y w) fun r => Q r s3) else Q (.bool false) s2 := by
  unfold mChain
  rw [ev_bnd_0]; refine ev_ext_0 fun x s1 => ?_
  rw [ev_bnd_0]; refine ev_ext_0 fun y s2 => ?_
  rw [ev_bnd_0, ev_opt_0]
  cases f x y with
  | none => rfl
  | some z =>
    simp only [so_some_0]
    cases z with
    | bool k =>
      cases k with
      | true =>
        simp only [tru, so_some_0, if_true]
        rw [ev_bnd_0]; refine ev_ext_0 fun w s3 => ?_
        exact ev_opt_0
      | false => simp [tru, so_some_0, Ev0]
    | _ => simp [tru, So0, Ev0]
theorem ev_nil_0 {Q : List D → DS → Prop} : Ev0 mNil s Q = Q [] s := nr rfl
theorem ev_cons_0 {a : M D} {r : M (List D)} {Q : List D → DS → Prop} : Ev0 (mCons a r) s Q = Ev0 a s fun x s1 => Ev0 r s1 fun xs s2 => Q (x :: xs) s2 := by
  unfold mCons; rw [ev_bnd_0]; refine ev_ext_0 fun x s1 => ?_; rw [ev_bnd_0]; rfl
theorem ev_nilB_0 {Q : List BR → DS → Prop} : Ev0 mNilB s Q = Q [] s := nr rfl
theorem ev_consB_0 {a : M BR} {r : M (List BR)} {Q : List BR → DS → Prop} : Ev0 (mConsB a r) s Q = Ev0 a s fun x s1 => Ev0 r s1 fun xs s2 => Q (x :: xs) s2 := by
  unfold mConsB; rw [ev_bnd_0]; refine ev_ext_0 fun x s1 => ?_; rw [ev_bnd_0]; rfl
theorem ev_tup_0 {a : M (List D)} {Q : D → DS → Prop} : Ev0 (mTup a) s Q = Ev0 a s fun xs s' => fits xs.length = true ∧ Q (.tuple xs) s' := by
  unfold mTup; rw [ev_bnd_0]; refine ev_ext_0 fun xs s' => ?_; rw [ev_opt_0, so_if_0]; rfl
theorem ev_lst_0 {a : M (List D)} {Q : D → DS → Prop} : Ev0 (mLst a) s Q = Ev0 a s fun xs s' => fits xs.length = true ∧ Q (.list xs) s' := by
  unfold mLst; rw [ev_bnd_0]; refine ev_ext_0 fun xs s' => ?_; rw [ev_opt_0, so_if_0]; rfl
theorem ev_B1_0 {f : List D → Option D} {a : M (List BR)} {Q : D → DS → Prop} : Ev0 (mB1 f a) s Q = Ev0 a s fun xs s' => So0 (xs.mapM (res s')) fun ds => So0 (f ds) fun d => Q d s' := by
  unfold mB1; rw [ev_bnd_0]; refine ev_ext_0 fun xs s' => ?_
  dsimp only [Ev0]
  cases xs.mapM (res s') with
  | none => rfl
  | some ds =>
    dsimp only [So0, opt]
    cases f ds <;> rfl
theorem ev_call_0 {f : FD} {n : Nat} {a : M (List D)} {Q : D → DS → Prop} : Ev0 (mCall f n a) s Q = Ev0 a s fun xs s' => xs.length = n ∧ ∃ d as, f xs = .ok d as ∧ Q d s' := by
  unfold mCall; rw [ev_bnd_0]; refine ev_ext_0 fun xs s' => ?_
  dsimp only [Ev0]
  by_cases h : xs.length = n
  · rw [if_pos h]
    cases f xs with
    | no => simp
    | ex x as => simp
    | ok d as => simp [h]
  · rw [if_neg h]; simp [h]
theorem ev_call1_0 {f : FD} {n j : Nat} {a : M (List D)} {Q : D → DS → Prop} : Ev0 (mCall1 f n j a) s Q = So0 (look s j) fun _ => Ev0 a s fun xs s' => So0 (look s' j) fun e => xs.length = n ∧ ∃ d e' as, f (e :: xs) = .ok d (e' :: as) ∧ Q d (s'.set j (some e')) := by
  unfold mCall1 look
  dsimp only [Ev0]
  cases s[j]? with
  | none => rfl
  | some o =>
    cases o with
    | none => rfl
    | some x =>
      dsimp only [So0, bnd]
      cases a s with
      | no => rfl
      | ok xs s' =>
        dsimp only
        cases s'[j]? with
        | none => rfl
        | some o' =>
          cases o' with
          | none => rfl
          | some e =>
            dsimp only
            by_cases h : xs.length = n
            · rw [if_pos h]
              cases f (e :: xs) with
              | no => simp
              | ex x as => simp
              | ok d as =>
                cases as with
                | nil => simp
                | cons e' as =>
                  refine propext ⟨fun q => ⟨h, d, e', as, rfl, q⟩, fun ⟨_, d1, e1, as1, z, q⟩ => ?_⟩
                  cases z
                  exact q
            · rw [if_neg h]; simp [h]
theorem ev_callT_0 {f : FD} {n : Nat} {m0 : M D} {a : M (List D)} {Q : D → DS → Prop} : Ev0 (mCallT f n m0 a) s Q = Ev0 m0 s fun e s1 => Ev0 a s1 fun xs s' => xs.length = n ∧ ∃ d e' as, f (e :: xs) = .ok d (e' :: as) ∧ Q d s' := by
  unfold mCallT; rw [ev_bnd_0]; refine ev_ext_0 fun e s1 => ?_; rw [ev_bnd_0]; refine ev_ext_0 fun xs s' => ?_
  dsimp only [Ev0]
  by_cases h : xs.length = n
  · rw [if_pos h]
    cases f (e :: xs) with
    | no => simp
    | ex x as => simp
    | ok d as => cases as <;> simp [h]
  · rw [if_neg h]; simp [h]
theorem ev_sl_0 {a : M BR} {lo hi : M (Option Int)} {Q : D → DS → Prop} : Ev0 (mSl a lo hi) s Q = Ev0 a s fun x s1 => Ev0 lo s1 fun l s2 => Ev0 hi s2 fun h s3 => So0 (res s3 x) fun d => So0 (slD d l h) fun r => Q r s3 := by
  unfold mSl; rw [ev_bnd_0]; refine ev_ext_0 fun x s1 => ?_; rw [ev_bnd_0]; refine ev_ext_0 fun l s2 => ?_; rw [ev_bnd_0]; refine ev_ext_0 fun h s3 => ?_
  dsimp only [Ev0]
  cases res s3 x with
  | none => rfl
  | some d =>
    dsimp only [So0, opt]
    cases slD d l h <;> rfl
theorem ev_P0_0 {Q : Option Int → DS → Prop} : Ev0 mP0 s Q = Q none s := nr rfl
def iof : D → Option Int
  | .int i => some i
  | _ => none
theorem ev_P1_0 {m : M D} {Q : Option Int → DS → Prop} : Ev0 (mP1 m) s Q = Ev0 m s fun d s' => So0 (iof d) fun i => Q (some i) s' := by
  unfold mP1; rw [ev_bnd_0]; refine ev_ext_0 fun d s' => ?_; rw [ev_opt_0]; cases d <;> rfl
theorem ev_Rg1_0 {m : M D} {Q : Int × Int → DS → Prop} : Ev0 (mRg1 m) s Q = Ev0 m s fun d s' => So0 (iof d) fun i => Q (0, i) s' := by
  unfold mRg1; rw [ev_bnd_0]; refine ev_ext_0 fun d s' => ?_; rw [ev_opt_0]; cases d <;> rfl
theorem ev_Rg2_0 {m n : M D} {Q : Int × Int → DS → Prop} : Ev0 (mRg2 m n) s Q = Ev0 m s fun d s1 => Ev0 n s1 fun e s' => So0 (iof d) fun i => So0 (iof e) fun j => Q (i, j) s' := by
  unfold mRg2; rw [ev_bnd_0]; refine ev_ext_0 fun d s1 => ?_; rw [ev_bnd_0]; refine ev_ext_0 fun e s' => ?_; rw [ev_opt_0]; cases d <;> cases e <;> rfl
theorem ev_LstRg_0 {m : M (Int × Int)} {Q : D → DS → Prop} : Ev0 (mLstRg m) s Q = Ev0 m s fun p s' => rgC p.1 p.2 = true ∧ Q (.list (rgD p.1 p.2)) s' := by
  unfold mLstRg; rw [ev_bnd_0]; refine ev_ext_0 fun p s' => ?_; rw [ev_opt_0, so_if_0]; rfl
def itD : D → Option (List D)
  | .list xs => some xs
  | .tuple xs => some xs
  | _ => none
theorem ev_It_0 {m : M D} {Q : List D → DS → Prop} : Ev0 (mIt m) s Q = Ev0 m s fun d s' => So0 (itD d) fun xs => Q xs s' := by
  unfold mIt; rw [ev_bnd_0]; refine ev_ext_0 fun d s' => ?_; rw [ev_opt_0]; cases d <;> rfl
def r1D : List D → Option Int
  | [.int j] => some j
  | _ => none
def r2D : List D → Option (Int × Int)
  | [.int i, .int j] => some (i, j)
  | _ => none
theorem ev_R1_0 {m : M (List D)} {Q : List D → DS → Prop} : Ev0 (mR1 m) s Q = Ev0 m s fun d s' => So0 (r1D d) fun j => rngC 0 j = true ∧ Q (rgD 0 j) s' := by
  unfold mR1; rw [ev_bnd_0]; refine ev_ext_0 fun d s' => ?_; rw [ev_opt_0]
  unfold r1D
  split
  · rw [so_if_0]; rfl
  · rename_i hn
    first
    | rfl
    | (split
       · rename_i j; exact absurd rfl (hn j)
       · rfl)
theorem ev_R2_0 {m : M (List D)} {Q : List D → DS → Prop} : Ev0 (mR2 m) s Q = Ev0 m s fun d s' => So0 (r2D d) fun p => rngC p.1 p.2 = true ∧ Q (rgD p.1 p.2) s' := by
  unfold mR2; rw [ev_bnd_0]; refine ev_ext_0 fun d s' => ?_; rw [ev_opt_0]
  unfold r2D
  split
  · rw [so_if_0]; rfl
  · rename_i hn
    first
    | rfl
    | (split
       · rename_i i j; exact absurd rfl (hn i j)
       · rfl)
theorem run_nx_0 : Run0 sNx s Nx Rt Bk Ct Ex = Nx s := nr rfl
theorem run_no_0 : Run0 sNo s Nx Rt Bk Ct Ex = False := nr rfl
theorem run_bk_0 : Run0 sBk s Nx Rt Bk Ct Ex = Bk s := nr rfl
theorem run_ct_0 : Run0 sCt s Nx Rt Bk Ct Ex = Ct s := nr rfl
theorem run_seq_0 {a b : MS} : Run0 (sSeq a b) s Nx Rt Bk Ct Ex = Run0 a s (fun s' => Run0 b s' Nx Rt Bk Ct Ex) Rt Bk Ct Ex := by
  unfold Run0 sSeq
  cases a s <;> rfl
theorem run_set_0 {i : Nat} {m : M D} : Run0 (sSet i m) s Nx Rt Bk Ct Ex = Ev0 m s fun d s' => Nx (s'.set i (some d)) := by
  unfold Run0 sSet Ev0
  cases m s <;> rfl
theorem run_drop_0 {m : M D} : Run0 (sDrop m) s Nx Rt Bk Ct Ex = Ev0 m s fun _ s' => Nx s' := by
  unfold Run0 sDrop Ev0
  cases m s <;> rfl
theorem run_ret_0 {m : M D} : Run0 (sRet m) s Nx Rt Bk Ct Ex = Ev0 m s fun d s' => Rt d s' := by
  unfold Run0 sRet Ev0
  cases m s <;> rfl
theorem run_if_0 {t : M Bool} {a b : MS} : Run0 (sIf t a b) s Nx Rt Bk Ct Ex = Ev0 t s fun x s' => if x = true then Run0 a s' Nx Rt Bk Ct Ex else Run0 b s' Nx Rt Bk Ct Ex := by
  unfold sIf Ev0
  show (match (match t s with | .ok true s' => a s' | .ok false s' => b s' | .no => .no) with | .nx s' => Nx s' | .rt d s' => Rt d s' | .bk s' => Bk s' | .ct s' => Ct s' | .ex x s' => Ex x s' | .no => False) = _
  cases t s with
  | no => rfl
  | ok x s' => cases x <;> rfl
theorem run_asg_0 {m : M D} {g : MG} : Run0 (sAsg m g) s Nx Rt Bk Ct Ex = Ev0 m s fun d s' => So0 (g d s') fun s2 => Nx s2 := by
  unfold Run0 sAsg Ev0
  cases m s with
  | no => rfl
  | ok d s' =>
    simp only
    cases g d s' <;> rfl
def lof : D → Option (List D)
  | .list xs => some xs
  | _ => none
theorem run_app_0 {i : Nat} {m : M D} : Run0 (sApp i m) s Nx Rt Bk Ct Ex = So0 (look s i) fun d0 => So0 (lof d0) fun _ => Ev0 m s fun d s' => So0 (look s' i) fun d1 => So0 (lof d1) fun xs => decide (xs.length < sizeLine) = true ∧ Nx (s'.set i (some (.list (xs ++ [d])))) := by
  unfold Run0 sApp look Ev0
  cases h : s[i]? with
  | none => rfl
  | some o =>
    cases o with
    | none => rfl
    | some d0 =>
      cases d0 <;> try rfl
      simp only [so_some_0, lof]
      cases m s with
      | no => rfl
      | ok d s' =>
        simp only
        cases h' : s'[i]? with
        | none => rfl
        | some o' =>
          cases o' with
          | none => rfl
          | some d1 =>
            cases d1 <;> try rfl
            rename_i xs
            simp only [so_some_0, lof]
            by_cases hz : xs.length < sizeLine
            · simp [hz]
            · simp [hz]
theorem run_put_0 {i : Nat} {me m : M D} : Run0 (sPut i me m) s Nx Rt Bk Ct Ex = Ev0 m s fun d s1 => So0 (look s1 i) fun d0 => So0 (lof d0) fun _ => Ev0 me s1 fun k s2 => So0 (iof k) fun z => So0 (look s2 i) fun d1 => So0 (lof d1) fun xs => So0 (ixN xs.length z) fun j => Nx (s2.set i (some (.list (xs.set j d)))) := by
  unfold Run0 sPut look Ev0
  cases m s with
  | no => rfl
  | ok d s1 =>
    simp only
    cases h : s1[i]? with
    | none => rfl
    | some o =>
      cases o with
      | none => rfl
      | some d0 =>
        cases d0 <;> try rfl
        simp only [so_some_0, lof]
        cases me s1 with
        | no => rfl
        | ok k s2 =>
          simp only
          cases k <;> try rfl
          simp only [so_some_0, iof]
          cases h' : s2[i]? with
          | none => rfl
          | some o' =>
            cases o' with
            | none => rfl
            | some d1 =>
              cases d1 <;> try rfl
              rename_i z xs
              simp only [so_some_0, lof]
              cases ixN xs.length z <;> rfl
theorem run_aug_0 {i : Nat} {f : D → D → Option D} {m : M D} : Run0 (sAug i f m) s Nx Rt Bk Ct Ex = So0 (look s i) fun x => Ev0 m s fun y s' => So0 (f x y) fun z => Nx (s'.set i (some z)) := by
  unfold Run0 sAug look Ev0
  cases h : s[i]? with
  | none => rfl
  | some o =>
    cases o with
    | none => rfl
    | some x =>
      simp only [so_some_0]
      cases m s with
      | no => rfl
      | ok y s' =>
        simp only
        cases f x y <;> rfl
theorem run_frz_0 {i : Nat} {b : MS} : Run0 (sFrz i b) s Nx Rt Bk Ct Ex = So0 (look s i) fun _ => Run0 b s Nx Rt Bk Ct Ex := by
  unfold look
  dsimp only [Run0, sFrz]
  cases h : s[i]? with
  | none => rfl
  | some o => cases o <;> rfl
theorem run_kill_0 {i : Nat} {b : MS} : Run0 (sKill i b) s Nx Rt Bk Ct Ex = Run0 b (s.set i none) Nx Rt Bk Ct Ex := nr rfl
theorem run_for_0 {mi : M (List D)} {g : MG} {b : MS} {xs : List D} {s' : DS} (I : Nat → DS → Prop) (h : mi s = .ok xs s') (h0 : I 0 s')
    (ht : ∀ i d s1, xs[i]? = some d → I i s1 → So0 (g d s1) fun s2 => Run0 b s2 (I (i + 1)) Rt Nx (I (i + 1)) Ex) (he : ∀ s1, I xs.length s1 → Nx s1) : Run0 (sFor mi g b) s Nx Rt Bk Ct Ex := by
  unfold Run0 sFor
  rw [h]
  have key : ∀ (n : Nat) (i : Nat) (s1 : DS), n + i = xs.length → I i s1 → Run0 (loop g b (xs.drop i)) s1 Nx Rt Bk Ct Ex := fun n => by
    induction n with
    | zero =>
      intro i s1 hn hI
      have : i = xs.length := by omega
      subst this
      rw [List.drop_of_length_le (Nat.le_refl _)]
      exact he s1 hI
    | succ n ih =>
      intro i s1 hn hI
      have hlt : i < xs.length := by omega
      have hd : xs.drop i = xs[i] :: xs.drop (i + 1) := List.drop_eq_getElem_cons hlt
      rw [hd]
      have t := ht i xs[i] s1 (List.getElem?_eq_getElem hlt) hI
      unfold Run0 loop
      cases hg : g xs[i] s1 with
      | none => rw [hg] at t; exact t
      | some s2 =>
        rw [hg] at t
        simp only [So0] at t
        unfold Run0 at t
        dsimp only
        cases hb : b s2 with
        | nx s3 => rw [hb] at t; exact ih (i + 1) s3 (by omega) t
        | ct s3 => rw [hb] at t; exact ih (i + 1) s3 (by omega) t
        | bk s3 => rw [hb] at t; exact t
        | rt d s3 => rw [hb] at t; exact t
        | ex x s3 => rw [hb] at t; exact t
        | no => rw [hb] at t; exact t
  exact key xs.length 0 s' (by omega) h0
theorem fn_run_0 {N n : Nat} {rk : Kd} {b : MS} {args : List D} {Q : D → List D → Prop} (hl : args.length = n) (h : Run0 b (entry N args) (fun s => rk = .sh ∧ So0 ((List.range n).mapM (look s)) fun as => Q .none as) (fun d s => So0 ((List.range n).mapM (look s)) fun as => Q d as) (fun _ => False) (fun _ => False) (fun _ _ => False)) :
    ∃ d as, fnD N n rk b args = .ok d as ∧ Q d as := by
  unfold Run0 at h
  unfold fnD
  rw [if_pos hl]
  split at h
  · rename_i s e
    rw [e]
    simp only [h.1, if_true]
    obtain ⟨_, h⟩ := h
    unfold leave
    cases z : (List.range n).mapM (look s) with
    | none => rw [z] at h; exact h.elim
    | some as => rw [z] at h; exact ⟨_, _, rfl, h⟩
  · rename_i d s e
    rw [e]
    dsimp only
    unfold leave
    cases z : (List.range n).mapM (look s) with
    | none => rw [z] at h; exact h.elim
    | some as => rw [z] at h; exact ⟨_, _, rfl, h⟩
  · exact h.elim
  · exact h.elim
  · exact h.elim
  · exact h.elim
theorem ev_mono_0 {m : M α} {Q Q' : α → DS → Prop} (h : Ev0 m s Q) (f : ∀ a s', Q a s' → Q' a s') : Ev0 m s Q' := by
  unfold Ev0 at h ⊢
  cases e : m s with
  | no => rw [e] at h; exact h
  | ok a s' => rw [e] at h; exact f _ _ h
theorem run_mono_0 {b : MS} {Nx' Bk' Ct' : DS → Prop} {Ex' : Xc → DS → Prop} {Rt' : D → DS → Prop} (h : Run0 b s Nx Rt Bk Ct Ex) (f1 : ∀ s', Nx s' → Nx' s') (f2 : ∀ d s', Rt d s' → Rt' d s') (f3 : ∀ s', Bk s' → Bk' s') (f4 : ∀ s', Ct s' → Ct' s') (f5 : ∀ x s', Ex x s' → Ex' x s') : Run0 b s Nx' Rt' Bk' Ct' Ex' := by
  unfold Run0 at h ⊢
  cases e : b s with
  | nx s' => rw [e] at h; exact f1 _ h
  | rt d s' => rw [e] at h; exact f2 _ _ h
  | bk s' => rw [e] at h; exact f3 _ h
  | ct s' => rw [e] at h; exact f4 _ h
  | ex x s' => rw [e] at h; exact f5 _ _ h
  | no => rw [e] at h; exact h
end
end Z
set_option Elab.async false
set_option linter.all false
set_option maxRecDepth 100000
namespace Z
open PySem L2
def Br0 (x : Bool) (A B : Prop) (_ : W2 A B := Unit.unit) : Prop := if x = true then A else B
theorem br_t_0 {A B : Prop} : Br0 true A B = A := nr rfl
theorem br_f_0 {A B : Prop} : Br0 false A B = B := by unfold Br0; simp
theorem br_i_0 {x : Bool} {A B : Prop} (h1 : x = true → A) (h2 : x = false → B) : Br0 x A B := by
  cases x with
  | true => exact h1 rfl
  | false => rw [br_f_0]; exact h2 rfl
def Cl0 (f : FD) (xs : List D) (Q : D → List D → Prop) (_ : W2 f Q := Unit.unit) : Prop := ∃ d as, f xs = .ok d as ∧ Q d as
section
variable {s : DS} {Nx : DS → Prop} {Rt : D → DS → Prop} {Bk Ct : DS → Prop} {Ex : Xc → DS → Prop}
theorem fn_cl_0 {N n : Nat} {rk : Kd} {b : MS} {args : List D} {Q : D → List D → Prop} (hl : args.length = n) (h : Run0 b (entry N args) (fun s => rk = .sh ∧ So0 ((List.range n).mapM (look s)) fun as => Q .none as) (fun d s => So0 ((List.range n).mapM (look s)) fun as => Q d as) (fun _ => False) (fun _ => False) (fun _ _ => False)) :
    Cl0 (fnD N n rk b) args Q := fn_run_0 hl h
theorem lk0 {x : Option D} : look (x :: s) 0 = x := by cases x <;> rfl
theorem lkS {x : Option D} {n : Nat} : look (x :: s) (n + 1) = look s n := nr rfl
theorem st0 {x y : Option D} : List.set (x :: s) 0 y = y :: s := nr rfl
theorem stS {x y : Option D} {n : Nat} : List.set (x :: s) (n + 1) y = x :: List.set s n y := nr rfl
theorem entry0 {N : Nat} : entry N [] = List.replicate N none := by simp [entry]
theorem entryS {N : Nat} {a : D} {l : List D} : entry (N + 1) (a :: l) = some a :: entry N l := by simp [entry]
theorem rep0 : List.replicate 0 (none : Option D) = [] := nr rfl
theorem repS {n : Nat} : List.replicate (n + 1) (none : Option D) = none :: List.replicate n none := nr rfl
theorem so_bind_0 {α β : Type} {o : Option α} {f : α → Option β} {Q : β → Prop} : So0 (o >>= f) Q = So0 o fun a => So0 (f a) Q := by cases o <;> rfl
theorem so_mapN_0 {α β : Type} {f : α → Option β} {Q : List β → Prop} : So0 (List.mapM f []) Q = Q [] := nr rfl
theorem so_mapC_0 {α β : Type} {f : α → Option β} {x : α} {l : List α} {Q : List β → Prop} : So0 (List.mapM f (x :: l)) Q = So0 (f x) fun a => So0 (List.mapM f l) fun as => Q (a :: as) := by
  rw [List.mapM_cons, so_bind_0]
  refine so_ext_0 fun a => ?_
  rw [so_bind_0]
  congr 1
theorem lks_eq_0 {n : Nat} {Q : List D → Prop} : So0 ((List.range n).mapM (look s)) Q = So0 ((List.range' 0 n).mapM (look s)) Q := by rw [List.range_eq_range']
theorem rg_z {a : Nat} : List.range' a 0 = [] := nr rfl
theorem rg_s {a n : Nat} : List.range' a (n + 1) = a :: List.range' (a + 1) n := nr rfl
theorem xv_and_0 {a b : M Bool} {Q : Bool → DS → Prop} : Ev0 (mAnd a b) s Q = Ev0 a s fun x s' => Br0 x (Ev0 b s' Q) (Q false s') := ev_and_0
theorem xv_or_0 {a b : M Bool} {Q : Bool → DS → Prop} : Ev0 (mOr a b) s Q = Ev0 a s fun x s' => Br0 x (Q true s') (Ev0 b s' Q) := ev_or_0
theorem xv_andV_0 {a b : M D} {Q : D → DS → Prop} : Ev0 (mAndV a b) s Q = Ev0 (mB a) s fun x s' => Br0 x (Ev0 b s' Q) (Q (.bool false) s') := ev_andV_0
theorem xv_orV_0 {a b : M D} {Q : D → DS → Prop} : Ev0 (mOrV a b) s Q = Ev0 (mB a) s fun x s' => Br0 x (Q (.bool true) s') (Ev0 b s' Q) := ev_orV_0
theorem xv_if_0 {t : M Bool} {a b : M D} {Q : D → DS → Prop} : Ev0 (mIf t a b) s Q = Ev0 t s fun x s' => Br0 x (Ev0 a s' Q) (Ev0 b s' Q) := ev_if_0
theorem xv_chain_0 {f g : D → D → Option D} {a b c : M D} {Q : D → DS → Prop} : Ev0 (mChain f g a b c) s Q = Ev0 a s fun x s1 => Ev0 b s1 fun y s2 => So0 (f x y) fun z => So0 (tru z) fun k => Br0 k (Ev0 c s2 fun w s3 => So0 (g y w) fun r => Q r s3) (Q (.bool false) s2) := ev_chain_0
theorem xr_if_0 {t : M Bool} {a b : MS} : Run0 (sIf t a b) s Nx Rt Bk Ct Ex = Ev0 t s fun x s' => Br0 x (Run0 a s' Nx Rt Bk Ct Ex) (Run0 b s' Nx Rt Bk Ct Ex) := run_if_0
theorem xv_call_0 {f : FD} {n : Nat} {a : M (List D)} {Q : D → DS → Prop} : Ev0 (mCall f n a) s Q = Ev0 a s fun xs s' => xs.length = n ∧ Cl0 f xs fun d _ => Q d s' := by
  rw [ev_call_0]; rfl
def hdO (as : List D) : Option D := as.head?
theorem xv_call1_0 {f : FD} {n j : Nat} {a : M (List D)} {Q : D → DS → Prop} : Ev0 (mCall1 f n j a) s Q = So0 (look s j) fun _ => Ev0 a s fun xs s' => So0 (look s' j) fun e => xs.length = n ∧ Cl0 f (e :: xs) fun d as => So0 (hdO as) fun e' => Q d (s'.set j (some e')) := by
  rw [ev_call1_0]
  refine so_ext_0 fun _ => ?_
  refine ev_ext_0 fun xs s' => ?_
  refine so_ext_0 fun e => ?_
  refine congrArg _ (propext ⟨fun ⟨d, e', as, h, q⟩ => ⟨d, _, h, q⟩, fun ⟨d, as, h, q⟩ => ?_⟩)
  cases as with
  | nil => exact q.elim
  | cons e' as => exact ⟨d, e', as, h, q⟩
theorem xv_callT_0 {f : FD} {n : Nat} {m0 : M D} {a : M (List D)} {Q : D → DS → Prop} : Ev0 (mCallT f n m0 a) s Q = Ev0 m0 s fun e s1 => Ev0 a s1 fun xs s' => xs.length = n ∧ Cl0 f (e :: xs) fun d as => So0 (hdO as) fun _ => Q d s' := by
  rw [ev_callT_0]
  refine ev_ext_0 fun e s1 => ?_
  refine ev_ext_0 fun xs s' => ?_
  refine congrArg _ (propext ⟨fun ⟨d, e', as, h, q⟩ => ⟨d, _, h, q⟩, fun ⟨d, as, h, q⟩ => ?_⟩)
  cases as with
  | nil => exact q.elim
  | cons e' as => exact ⟨d, e', as, h, q⟩
theorem hdC_0 {a : D} {as : List D} {Q : D → Prop} : So0 (hdO (a :: as)) Q = Q a := nr rfl
variable {i j : Int} {Q : D → Prop}
theorem so_add_0 : So0 (addD (.int i) (.int j)) Q = Q (.int (i + j)) := nr rfl
theorem so_sub_0 : So0 (subI (.int i) (.int j)) Q = Q (.int (i - j)) := nr rfl
theorem so_addN_0 : So0 (addN (.int i) (.int j)) Q = Q (.int (i + j)) := nr rfl
theorem so_subN_0 : So0 (subN (.int i) (.int j)) Q = Q (.int (i - j)) := nr rfl
theorem so_mul_0 : So0 (mulI (.int i) (.int j)) Q = (mulC i j = true ∧ Q (.int (i * j))) := so_if_0
theorem so_div_0 : So0 (divI (.int i) (.int j)) Q = (divC i j = true ∧ Q (.int (i / j))) := so_if_0
theorem so_mod_0 : So0 (modI (.int i) (.int j)) Q = (modC i j = true ∧ Q (.int (i % j))) := so_if_0
theorem so_pow_0 : So0 (powI (.int i) (.int j)) Q = (powC i j = true ∧ Q (.int (i ^ j.toNat))) := so_if_0
theorem so_shl_0 : So0 (shlI (.int i) (.int j)) Q = (shlC i j = true ∧ Q (.int (i * 2 ^ j.toNat))) := so_if_0
theorem so_shr_0 : So0 (shrI (.int i) (.int j)) Q = (shrC i j = true ∧ Q (.int (i / 2 ^ j.toNat))) := so_if_0
theorem so_and_0 : So0 (andI (.int i) (.int j)) Q = Q (.int (Builtin.bitAnd i j)) := nr rfl
theorem so_or_0 : So0 (orI (.int i) (.int j)) Q = Q (.int (Builtin.bitOr i j)) := nr rfl
theorem so_xor_0 : So0 (xorI (.int i) (.int j)) Q = Q (.int (Builtin.bitXor i j)) := nr rfl
theorem so_lt_0 : So0 (ltI (.int i) (.int j)) Q = Q (.bool (decide (i < j))) := nr rfl
theorem so_le_0 : So0 (leI (.int i) (.int j)) Q = Q (.bool (decide (i ≤ j))) := nr rfl
theorem so_gt_0 : So0 (gtI (.int i) (.int j)) Q = Q (.bool (decide (j < i))) := nr rfl
theorem so_ge_0 : So0 (geI (.int i) (.int j)) Q = Q (.bool (decide (j ≤ i))) := nr rfl
theorem so_eqI_0 : So0 (eqD (.int i) (.int j)) Q = Q (.bool (decide (i = j))) := nr rfl
theorem so_neI_0 : So0 (neD (.int i) (.int j)) Q = Q (.bool (!decide (i = j))) := nr rfl
theorem so_neg_0 : So0 (negI (.int i)) Q = Q (.int (-i)) := nr rfl
theorem so_isN_0 {d : D} : So0 (isN d .none) Q = Q (.bool (nonB d)) := nr rfl
theorem so_notN_0 {d : D} : So0 (notN d .none) Q = Q (.bool (!nonB d)) := nr rfl
theorem non_n : nonB .none = true := nr rfl
theorem non_i : nonB (.int i) = false := nr rfl
theorem non_t {l : List D} : nonB (.tuple l) = false := nr rfl
theorem non_l {l : List D} : nonB (.list l) = false := nr rfl
theorem non_b {b : Bool} : nonB (.bool b) = false := nr rfl
theorem non_s {b : Str} : nonB (.str b) = false := nr rfl
theorem so_ixL_0 {l : List D} : So0 (ixD (.list l) (.int i)) Q = So0 (atI l i) Q := nr rfl
theorem so_ixT_0 {l : List D} : So0 (ixD (.tuple l) (.int i)) Q = So0 (atI l i) Q := nr rfl
theorem at0 {α : Type} {a : α} {l : List α} : atI (a :: l) 0 = some a := by
  unfold atI ixN; simp
theorem ixN_ofNat {n : Nat} {k : Nat} (h : k < n) : ixN n (k : Int) = some k := by
  unfold ixN
  rw [if_pos (by omega), if_pos (by omega)]
  simp
theorem at1 {α : Type} {a b : α} {l : List α} : atI (a :: b :: l) 1 = some b := by
  have : ixN (a :: b :: l).length ((1 : Nat) : Int) = some 1 := ixN_ofNat (by simp)
  unfold atI; erw [this]; rfl
theorem at2 {α : Type} {a b c : α} {l : List α} : atI (a :: b :: c :: l) 2 = some c := by
  have : ixN (a :: b :: c :: l).length ((2 : Nat) : Int) = some 2 := ixN_ofNat (by simp)
  unfold atI; erw [this]; rfl
theorem at3 {α : Type} {a b c d : α} {l : List α} : atI (a :: b :: c :: d :: l) 3 = some d := by
  have : ixN (a :: b :: c :: d :: l).length ((3 : Nat) : Int) = some 3 := ixN_ofNat (by simp)
  unfold atI; erw [this]; rfl
theorem at_nat {α : Type} {l : List α} {i : Int} {v : α} (h0 : 0 ≤ i) (h : l[i.toNat]? = some v) : atI l i = some v := by
  have := atI_nat h
  rwa [Int.toNat_of_nonneg h0] at this
theorem so_at_0 {l : List D} {i : Int} {Q : D → Prop} (h0 : 0 ≤ i) (h1 : i < l.length) (h : ∀ v, l[i.toNat]? = some v → Q v) : So0 (atI l i) Q := by
  have hlt : i.toNat < l.length := by omega
  have e : l[i.toNat]? = some l[i.toNat] := List.getElem?_eq_getElem hlt
  rw [at_nat h0 e]
  exact h _ e
theorem ixN30 : ixN 3 0 = some 0 := by decide
theorem ixN31 : ixN 3 1 = some 1 := by decide
theorem ixN32 : ixN 3 2 = some 2 := by decide
theorem ix0_0 {α : Type} {a : α} {l : List α} {Q : Nat → Prop} : So0 (ixN (a :: l).length 0) Q = Q 0 := by
  have : ixN (a :: l).length ((0 : Nat) : Int) = some 0 := ixN_ofNat (by simp)
  erw [this]; rfl
theorem ix1_0 {α : Type} {a b : α} {l : List α} {Q : Nat → Prop} : So0 (ixN (a :: b :: l).length 1) Q = Q 1 := by
  have : ixN (a :: b :: l).length ((1 : Nat) : Int) = some 1 := ixN_ofNat (by simp)
  erw [this]; rfl
theorem ix2_0 {α : Type} {a b c : α} {l : List α} {Q : Nat → Prop} : So0 (ixN (a :: b :: c :: l).length 2) Q = Q 2 := by
  have : ixN (a :: b :: c :: l).length ((2 : Nat) : Int) = some 2 := ixN_ofNat (by simp)
  erw [this]; rfl
theorem so_tru_0 {b : Bool} {Q : Bool → Prop} : So0 (tru (.bool b)) Q = Q b := nr rfl
theorem so_iof_0 {Q : Int → Prop} : So0 (iof (.int i)) Q = Q i := nr rfl
theorem so_lof_0 {l : List D} {Q : List D → Prop} : So0 (lof (.list l)) Q = Q l := nr rfl
theorem so_itL_0 {l : List D} {Q : List D → Prop} : So0 (itD (.list l)) Q = Q l := nr rfl
theorem so_itT_0 {l : List D} {Q : List D → Prop} : So0 (itD (.tuple l)) Q = Q l := nr rfl
theorem so_r1_0 {Q : Int → Prop} : So0 (r1D [.int i]) Q = Q i := nr rfl
theorem so_r2_0 {Q : Int × Int → Prop} : So0 (r2D [.int i, .int j]) Q = Q (i, j) := nr rfl
theorem so_abs_0 : So0 (absD [.int i]) Q = Q (.int (if i < 0 then -i else i)) := nr rfl
theorem so_max_0 : So0 (maxD [.int i, .int j]) Q = Q (.int (if j > i then j else i)) := nr rfl
theorem so_min_0 : So0 (minD [.int i, .int j]) Q = Q (.int (if j < i then j else i)) := nr rfl
theorem so_intB_0 {b : Bool} : So0 (intD [.bool b]) Q = Q (.int (if b then 1 else 0)) := nr rfl
theorem so_intI_0 : So0 (intD [.int i]) Q = Q (.int i) := nr rfl
theorem ii_i : isiB "int" (.int i) = true := nr rfl
theorem ib_i : isiB "bool" (.int i) = false := nr rfl
theorem ib_b {b : Bool} : isiB "bool" (.bool b) = true := nr rfl
theorem ii_b {b : Bool} : isiB "int" (.bool b) = true := nr rfl
theorem it_t {l : List D} : isiB "tuple" (.tuple l) = true := nr rfl
theorem it_l {l : List D} : isiB "tuple" (.list l) = false := nr rfl
theorem il_l {l : List D} : isiB "list" (.list l) = true := nr rfl
theorem il_t {l : List D} : isiB "list" (.tuple l) = false := nr rfl
theorem modC_eq : (modC i j = true) = (0 < j) := by unfold modC; simp
theorem divC_any {k : Int} (h : divC 0 j = true) : divC k j = true := by unfold divC at h ⊢; exact h
theorem divC_pos (h : divC i j = true) : 0 < j := by unfold divC at h; exact (of_decide_eq_true h : 0 < j ∧ j.natAbs.log2 < 9000).1
theorem shrC_eq : (shrC i j = true) = (0 ≤ j) := by unfold shrC; simp
theorem powC_eq : (powC i j = true) = (0 ≤ j ∧ j ≤ 1000000 ∧ i.natAbs < 18446744073709551616) := by unfold powC; simp
theorem bits_le {x : Int} {n : Nat} (h : x.natAbs < 2 ^ n) : Builtin.Int.intBits x ≤ n := by
  unfold Builtin.Int.intBits
  split
  · omega
  · rename_i hx
    have : x.natAbs ≠ 0 := by
      intro z
      exact hx (by simpa using z)
    have := (Nat.log2_lt this).mpr h
    omega
theorem mulC_of {m n : Nat} (hi : i.natAbs < 2 ^ m) (hj : j.natAbs < 2 ^ n) (h : m + n ≤ 134217728 := by decide) : mulC i j = true := by
  have := bits_le hi
  have := bits_le hj
  unfold mulC
  exact decide_eq_true (by omega)
theorem divC_of {n : Nat} (h0 : 0 < j) (hj : j.natAbs < 2 ^ n) (h : n ≤ 9000 := by decide) : divC i j = true := by
  unfold divC
  refine decide_eq_true ⟨h0, ?_⟩
  have := (Nat.log2_lt (by omega : j.natAbs ≠ 0)).mpr hj
  omega
theorem fits_eq {n : Nat} : (fits n = true) = (n ≤ 16777216) := by unfold fits sizeLine; simp
theorem fits0 : (fits 0 = true) = True := nr (by decide)
theorem fits1 : (fits 1 = true) = True := nr (by decide)
theorem fits2 : (fits 2 = true) = True := nr (by decide)
theorem fits3 : (fits 3 = true) = True := nr (by decide)
theorem fits4 : (fits 4 = true) = True := nr (by decide)
theorem fits5 : (fits 5 = true) = True := nr (by decide)
theorem fits6 : (fits 6 = true) = True := nr (by decide)
theorem fits7 : (fits 7 = true) = True := nr (by decide)
theorem fits8 : (fits 8 = true) = True := nr (by decide)
theorem fits9 : (fits 9 = true) = True := nr (by decide)
theorem fits10 : (fits 10 = true) = True := nr (by decide)
theorem fits11 : (fits 11 = true) = True := nr (by decide)
theorem fits12 : (fits 12 = true) = True := nr (by decide)
theorem fits13 : (fits 13 = true) = True := nr (by decide)
theorem fits14 : (fits 14 = true) = True := nr (by decide)
theorem fits15 : (fits 15 = true) = True := nr (by decide)
theorem fits16 : (fits 16 = true) = True := nr (by decide)
theorem rngC_eq : (rngC i j = true) = (-(2 ^ 62) ≤ i ∧ i < 2 ^ 62 ∧ -(2 ^ 62) ≤ j ∧ j < 2 ^ 62) := by unfold rngC; simp
theorem so_cat_0 {l k : List D} : So0 (addD (.list l) (.list k)) Q = (fits (l.length + k.length) = true ∧ Q (.list (l ++ k))) := by
  show So0 (if fits (l.length + k.length) then some (PyData.list (l ++ k)) else none) Q = _
  exact so_if_0
end
end Z
set_option Elab.async false
set_option linter.all false
set_option maxRecDepth 100000
namespace Z
open PySem L2
section
variable {s : DS} {Nx : DS → Prop} {Rt : D → DS → Prop} {Bk Ct : DS → Prop} {Ex : Xc → DS → Prop} {Q : DS → Prop}
theorem so_gN_0 {i : Nat} {d : D} : So0 (gN i d s) Q = Q (s.set i (some d)) := nr rfl
theorem so_gT_0 {n : Nat} {g : List D → DS → Option DS} {xs : List D} : So0 (gT n g (.tuple xs) s) Q = (xs.length = n ∧ So0 (g xs s) Q) := so_dec_0
theorem so_gL_0 {n : Nat} {g : List D → DS → Option DS} {xs : List D} : So0 (gL n g (.list xs) s) Q = (xs.length = n ∧ So0 (g xs s) Q) := so_dec_0
theorem so_gC_0 {a : MG} {r : List D → DS → Option DS} {x : D} {ys : List D} : So0 (gC a r (x :: ys) s) Q = So0 (a x s) fun s' => So0 (r ys s') Q := by
  show So0 (match a x s with | some s' => r ys s' | none => none) Q = _
  cases a x s <;> rfl
theorem so_gE_0 : So0 (gE [] s) Q = Q s := nr rfl
def Fo0 (xs : List D) (s : DS) (g : MG) (b : MS) (Nx : DS → Prop) (Rt : D → DS → Prop) (Bk Ct : DS → Prop) (Ex : Xc → DS → Prop) (_ : W5 g b Nx Rt (Bk, Ct, Ex) := Unit.unit) : Prop := Run0 (loop g b xs) s Nx Rt Bk Ct Ex
theorem run_fo_0 {mi : M (List D)} {g : MG} {b : MS} : Run0 (sFor mi g b) s Nx Rt Bk Ct Ex = Ev0 mi s fun xs s' => Fo0 xs s' g b Nx Rt Bk Ct Ex := by
  unfold Run0 sFor Ev0 Fo0 Run0
  cases mi s <;> rfl
theorem for_it_0 {g : MG} {b : MS} {xs : List D} (I : Nat → DS → Prop) (h0 : I 0 s)
    (ht : ∀ (i : Nat) (d : D) (s1 : DS), xs[i]? = some d → I i s1 → So0 (g d s1) fun s2 => Run0 b s2 (I (i + 1)) Rt Nx (I (i + 1)) Ex) (he : ∀ s1, I xs.length s1 → Nx s1) :
    Fo0 xs s g b Nx Rt Bk Ct Ex := by
  have h := run_for_0 (mi := fun s => R.ok xs s) (Bk := Bk) (Ct := Ct) (Ex := Ex) I rfl h0 ht he
  unfold Fo0
  exact h
theorem for_rg_0 {g : MG} {b : MS} {a c : Int} (I : Nat → DS → Prop) (h0 : I 0 s)
    (ht : ∀ (i : Nat) (s1 : DS), a + i < c → I i s1 → So0 (g (.int (a + i)) s1) fun s2 => Run0 b s2 (I (i + 1)) Rt Nx (I (i + 1)) Ex) (he : ∀ s1, I (c - a).toNat s1 → Nx s1) :
    Fo0 (rgD a c) s g b Nx Rt Bk Ct Ex := by
  refine for_it_0 I h0 (fun i d s1 h hI => ?_) fun s1 h => he s1 (by rwa [rgD_len] at h)
  obtain ⟨hlt, rfl⟩ := rgD_get h
  exact ht i s1 (by omega) hI
theorem for_r0_0 {g : MG} {b : MS} {c : Int} (I : Nat → DS → Prop) (h0 : I 0 s)
    (ht : ∀ (i : Nat) (s1 : DS), (i : Int) < c → I i s1 → So0 (g (.int i) s1) fun s2 => Run0 b s2 (I (i + 1)) Rt Nx (I (i + 1)) Ex) (he : ∀ s1, I c.toNat s1 → Nx s1) :
    Fo0 (rgD 0 c) s g b Nx Rt Bk Ct Ex :=
  for_rg_0 I h0 (fun i s1 h hI => by have := ht i s1 (by omega) hI; rwa [Int.zero_add]) fun s1 h => he s1 (by rwa [Int.sub_zero] at h)
def Wh0 (t : M Bool) (b : MS) (s : DS) (Nx : DS → Prop) (Rt : D → DS → Prop) (Bk Ct : DS → Prop) (Ex : Xc → DS → Prop) (_ : W5 t b Nx Rt (Bk, Ct, Ex) := Unit.unit) : Prop := Run0 (sWhile t b) s Nx Rt Bk Ct Ex
theorem run_wh_0 {t : M Bool} {b : MS} : Run0 (sWhile t b) s Nx Rt Bk Ct Ex = Wh0 t b s Nx Rt Bk Ct Ex := by unfold Wh0; exact nr rfl
theorem divL {i j : Int} (h : 0 < j ∧ j < 18446744073709551616 := by decide) : divC i j = true := divC_of (n := 64) h.1 (by omega)
theorem so_lenL_0 {l : List D} {Q : D → Prop} : So0 (lenD [.list l]) Q = Q (.int l.length) := nr rfl
theorem so_lenT_0 {l : List D} {Q : D → Prop} : So0 (lenD [.tuple l]) Q = Q (.int l.length) := nr rfl
theorem so_slL_0 {l : List D} {lo hi : Option Int} {Q : D → Prop} : So0 (slD (.list l) lo hi) Q = Q (.list (cutD l lo hi)) := nr rfl
theorem cut_mem {l : List D} {lo hi : Option Int} {i : Nat} {d : D} (h : (cutD l lo hi)[i]? = some d) : d ∈ l := by
  have := List.mem_of_getElem? h
  unfold cutD at this
  exact List.mem_of_mem_drop (List.mem_of_mem_take this)
theorem nab10 : (Int.natAbs 10 < 18446744073709551616) = True := nr (by decide)
theorem nab2 : (Int.natAbs 2 < 18446744073709551616) = True := nr (by decide)
theorem nap2 (n : Nat) : (2 : Int) ^ n = ((2 ^ n : Nat) : Int) := by simp
theorem abs_pow2 {n : Nat} {x : Int} (h0 : 0 ≤ x) (h : x < 2 ^ n) : x.natAbs < 2 ^ n := by
  rw [nap2] at h
  omega
theorem so_map_0 {α β : Type} {o : Option α} {f : α → β} {Q : β → Prop} : So0 (o.map f) Q = So0 o fun a => Q (f a) := by cases o <;> rfl
end
end Z
set_option Elab.async false
set_option linter.all false
set_option maxRecDepth 100000
namespace Z
open PySem L2
def flatD : D → Bool
  | .none => true
  | .bool _ => true
  | .int _ => true
  | .str _ => true
  | _ => false
def eqF : D → D → Bool
  | .none, .none => true
  | .bool a, .bool b => a == b
  | .bool a, .int b => (if a then 1 else 0) == b
  | .int a, .bool b => a == (if b then 1 else 0)
  | .int a, .int b => a == b
  | .str a, .str b => a == b
  | _, _ => false
def inD : D → D → Option D
  | x, .list ys => if flatD x && ys.all flatD then some (.bool (ys.any fun y => eqF y x)) else none
  | x, .tuple ys => if flatD x && ys.all flatD then some (.bool (ys.any fun y => eqF y x)) else none
  | _, _ => none
def notInD : D → D → Option D
  | x, .list ys => if flatD x && ys.all flatD then some (.bool (!ys.any fun y => eqF y x)) else none
  | x, .tuple ys => if flatD x && ys.all flatD then some (.bool (!ys.any fun y => eqF y x)) else none
  | _, _ => none
section
variable {K : Fg} {F : Hp}
theorem flat_dp {v : V} {d : D} (h : Dp K F v d) (f : flatD d = true) : flatV v = true := by
  cases h <;> first | rfl | exact absurd f (by simp [flatD])
theorem eqF_dp {v u : V} {d e : D} (h : Dp K F v d) (g : Dp K F u e) (f1 : flatD d = true) (f2 : flatD e = true) : eqV v u = eqF d e := by
  cases h <;> cases g <;> first | rfl | exact absurd f1 (by simp [flatD]) | exact absurd f2 (by simp [flatD])
theorem flats_dp : ∀ {vs : List V} {ds : List D}, DpAll K F vs ds → ds.all flatD = true → vs.all flatV = true
  | _, _, .nil, _ => rfl
  | _, _, .cons h t, f => by
    rw [List.all_cons, Bool.and_eq_true] at f ⊢
    exact ⟨flat_dp h f.1, flats_dp t f.2⟩
theorem any_dp {x : V} {dx : D} (hx : Dp K F x dx) (fx : flatD dx = true) : ∀ {vs : List V} {ds : List D}, DpAll K F vs ds → ds.all flatD = true → (vs.any fun y => eqV y x) = ds.any fun y => eqF y dx
  | _, _, .nil, _ => rfl
  | _, _, .cons h t, f => by
    rw [List.all_cons, Bool.and_eq_true] at f
    rw [List.any_cons, List.any_cons, eqF_dp h hx f.1 fx, any_dp hx fx t f.2]
theorem vw_flat {H : Hp} {x : V} {d : D} (h : Vw K F H x d) (f : flatD d = true) : Dp K F x d := by
  rcases h with h | ⟨p, xs, ds, rfl, rfl, hp, al⟩
  · exact h
  · exact absurd f (by simp [flatD])
theorem g_in : OpG K (rIn K false) inD := fun F H x y dx dy d sF vx vy e Q q => by
  unfold inD at e
  split at e
  · split at e
    · rename_i hf
      rw [Bool.and_eq_true] at hf
      cases e
      obtain ⟨p, xs, rfl, sq, al⟩ := vy.lst sF
      have dx := vw_flat vx hf.1
      refine ⟨p, xs, rfl, .inl sq, flat_dp dx hf.1, flats_dp al hf.2, ?_⟩
      unfold inV
      rw [any_dp dx hf.1 al hf.2]
      exact q F H _ .refl (.bl _)
    · cases e
  · split at e
    · rename_i hf
      rw [Bool.and_eq_true] at hf
      cases e
      obtain ⟨p, xs, rfl, sq, al⟩ := vy.tup sF
      have dx := vw_flat vx hf.1
      refine ⟨p, xs, rfl, .inr sq, flat_dp dx hf.1, flats_dp al hf.2, ?_⟩
      unfold inV
      rw [any_dp dx hf.1 al hf.2]
      exact q F H _ .refl (.bl _)
    · cases e
  · cases e
end
section
variable {Q : D → Prop} {x : D} {l : List D}
theorem so_inL_0 : So0 (inD x (.list l)) Q = ((flatD x && l.all flatD) = true ∧ Q (.bool (l.any fun y => eqF y x))) := by
  show So0 (if (flatD x && l.all flatD) = true then some (PyData.bool (l.any fun y => eqF y x)) else none) Q = _
  exact so_if_0
theorem so_inT_0 : So0 (inD x (.tuple l)) Q = ((flatD x && l.all flatD) = true ∧ Q (.bool (l.any fun y => eqF y x))) := by
  show So0 (if (flatD x && l.all flatD) = true then some (PyData.bool (l.any fun y => eqF y x)) else none) Q = _
  exact so_if_0
theorem so_ninL_0 : So0 (notInD x (.list l)) Q = ((flatD x && l.all flatD) = true ∧ Q (.bool (!l.any fun y => eqF y x))) := by
  show So0 (if (flatD x && l.all flatD) = true then some (PyData.bool (!l.any fun y => eqF y x)) else none) Q = _
  exact so_if_0
theorem so_ninT_0 : So0 (notInD x (.tuple l)) Q = ((flatD x && l.all flatD) = true ∧ Q (.bool (!l.any fun y => eqF y x))) := by
  show So0 (if (flatD x && l.all flatD) = true then some (PyData.bool (!l.any fun y => eqF y x)) else none) Q = _
  exact so_if_0
end
end Z
set_option Elab.async false
set_option linter.all false
set_option maxRecDepth 100000
namespace Z
open PySem L2
@[irreducible] def Ev {α : Type} (m : M α) (s : DS) (Q : α → DS → Prop) (_ : W2 m Q := Unit.unit) : Prop := Ev0 m s Q
@[irreducible] def Run (b : MS) (s : DS) (Nx : DS → Prop) (Rt : D → DS → Prop) (Bk Ct : DS → Prop) (Ex : Xc → DS → Prop) (_ : W5 b Nx Rt Bk (Ct, Ex) := Unit.unit) : Prop := Run0 b s Nx Rt Bk Ct Ex
@[irreducible] def So {α : Type} (o : Option α) (Q : α → Prop) (_ : W1 Q := Unit.unit) : Prop := So0 o Q
@[irreducible] def Br (x : Bool) (A B : Prop) (_ : W2 A B := Unit.unit) : Prop := Br0 x A B
@[irreducible] def Cl (f : FD) (xs : List D) (Q : D → List D → Prop) (_ : W2 f Q := Unit.unit) : Prop := Cl0 f xs Q
@[irreducible] def Fo (xs : List D) (s : DS) (g : MG) (b : MS) (Nx : DS → Prop) (Rt : D → DS → Prop) (Bk Ct : DS → Prop) (Ex : Xc → DS → Prop) (_ : W5 g b Nx Rt (Bk, Ct, Ex) := Unit.unit) : Prop := Fo0 xs s g b Nx Rt Bk Ct Ex
@[irreducible] def Wh (t : M Bool) (b : MS) (s : DS) (Nx : DS → Prop) (Rt : D → DS → Prop) (Bk Ct : DS → Prop) (Ex : Xc → DS → Prop) (_ : W5 t b Nx Rt (Bk, Ct, Ex) := Unit.unit) : Prop := Wh0 t b s Nx Rt Bk Ct Ex
theorem br_t {A B : Prop} : Br true A B = A := by with_unfolding_all exact br_t_0
theorem br_f {A B : Prop} : Br false A B = B := by with_unfolding_all exact br_f_0
theorem br_i {x : Bool} {A B : Prop} (h1 : x = true → A) (h2 : x = false → B) : Br x A B := by with_unfolding_all exact br_i_0 h1 h2
theorem br_d {p : Prop} [Decidable p] {A B : Prop} (h1 : p → A) (h2 : ¬ p → B) : Br (decide p) A B := br_i (fun h => h1 (of_decide_eq_true h)) fun h => h2 (of_decide_eq_false h)
theorem br_nd {p : Prop} [Decidable p] {A B : Prop} (h1 : ¬ p → A) (h2 : p → B) : Br (!decide p) A B := br_i (fun h => h1 (by simpa using h)) fun h => h2 (by simpa using h)
theorem Cl.of {f : FD} {xs : List D} {Q : D → List D → Prop} {d : D} {as : List D} (h : f xs = .ok d as) (q : Q d as) : Cl f xs Q := by with_unfolding_all exact ⟨d, as, h, q⟩
theorem Cl.out {f : FD} {xs : List D} {Q : D → List D → Prop} (h : Cl f xs Q) : ∃ d as, f xs = .ok d as ∧ Q d as := by with_unfolding_all exact h
theorem Cl.mono {f : FD} {xs : List D} {Q Q' : D → List D → Prop} (h : Cl f xs Q) (g : ∀ d as, Q d as → Q' d as) : Cl f xs Q' := by
  obtain ⟨d, as, e, q⟩ := h.out
  exact .of e (g d as q)
theorem ev_mono {α : Type} {m : M α} {s : DS} {Q Q' : α → DS → Prop} (h : Ev m s Q) (f : ∀ a s', Q a s' → Q' a s') : Ev m s Q' := by with_unfolding_all exact ev_mono_0 h f
theorem run_mono {b : MS} {s : DS} {Nx Bk Ct : DS → Prop} {Ex : Xc → DS → Prop} {Rt : D → DS → Prop} {Nx' Bk' Ct' : DS → Prop} {Ex' : Xc → DS → Prop} {Rt' : D → DS → Prop} (h : Run b s Nx Rt Bk Ct Ex) (f1 : ∀ s', Nx s' → Nx' s') (f2 : ∀ d s', Rt d s' → Rt' d s') (f3 : ∀ s', Bk s' → Bk' s') (f4 : ∀ s', Ct s' → Ct' s') (f5 : ∀ x s', Ex x s' → Ex' x s') : Run b s Nx' Rt' Bk' Ct' Ex' := by with_unfolding_all exact run_mono_0 h f1 f2 f3 f4 f5
theorem fn_cl {N n : Nat} {rk : Kd} {b : MS} {args : List D} {Q : D → List D → Prop} (hl : args.length = n) (h : Run b (entry N args) (fun s => rk = .sh ∧ So ((List.range n).mapM (look s)) fun as => Q .none as) (fun d s => So ((List.range n).mapM (look s)) fun as => Q d as) (fun _ => False) (fun _ => False) (fun _ _ => False)) :
    Cl (fnD N n rk b) args Q := by with_unfolding_all exact fn_cl_0 hl h
theorem so_at {l : List D} {i : Int} {Q : D → Prop} (h0 : 0 ≤ i) (h1 : i < l.length) (h : ∀ v, l[i.toNat]? = some v → Q v) : So (atI l i) Q := by with_unfolding_all exact so_at_0 h0 h1 h
section
variable {s : DS} {Nx : DS → Prop} {Rt : D → DS → Prop} {Bk Ct : DS → Prop} {Ex : Xc → DS → Prop}
theorem for_it {g : MG} {b : MS} {xs : List D} (I : Nat → DS → Prop) (h0 : I 0 s)
    (ht : ∀ (i : Nat) (d : D) (s1 : DS), xs[i]? = some d → I i s1 → So (g d s1) fun s2 => Run b s2 (I (i + 1)) Rt Nx (I (i + 1)) Ex) (he : ∀ s1, I xs.length s1 → Nx s1) :
    Fo xs s g b Nx Rt Bk Ct Ex := by with_unfolding_all exact for_it_0 I h0 ht he
theorem for_r0 {g : MG} {b : MS} {c : Int} (I : Nat → DS → Prop) (h0 : I 0 s)
    (ht : ∀ (i : Nat) (s1 : DS), (i : Int) < c → I i s1 → So (g (.int i) s1) fun s2 => Run b s2 (I (i + 1)) Rt Nx (I (i + 1)) Ex) (he : ∀ s1, I c.toNat s1 → Nx s1) :
    Fo (rgD 0 c) s g b Nx Rt Bk Ct Ex := by with_unfolding_all exact for_r0_0 I h0 ht he
end
section
variable {α β : Type} {s : DS} {Nx Bk Ct : DS → Prop} {Ex : Xc → DS → Prop} {Rt : D → DS → Prop}
theorem so_some {a : α} {Q : α → Prop} : So (some a) Q = Q a := by with_unfolding_all exact so_some_0
theorem so_none {Q : α → Prop} : So (none : Option α) Q = False := by with_unfolding_all exact so_none_0
theorem so_if {c : Bool} {o : Option α} {Q : α → Prop} : So (if c = true then o else none) Q = (c = true ∧ So o Q) := by with_unfolding_all exact so_if_0
theorem so_dec {c : Prop} [Decidable c] {o : Option α} {Q : α → Prop} : So (if c then o else none) Q = (c ∧ So o Q) := by with_unfolding_all exact so_dec_0
theorem ev_bnd {m : M α} {f : α → M β} {Q : β → DS → Prop} : Ev (bnd m f) s Q = Ev m s fun a s' => Ev (f a) s' Q := by with_unfolding_all exact ev_bnd_0
theorem ev_ok {a : α} {Q : α → DS → Prop} : Ev (fun s => R.ok a s) s Q = Q a s := by with_unfolding_all exact ev_ok_0
theorem ev_opt {o : Option α} {Q : α → DS → Prop} : Ev (opt o) s Q = So o fun a => Q a s := by with_unfolding_all exact ev_opt_0
theorem ev_var {i : Nat} {Q : D → DS → Prop} : Ev (mVar i) s Q = So (look s i) fun d => Q d s := by with_unfolding_all exact ev_var_0
theorem ev_C {d : D} {Q : D → DS → Prop} : Ev (mC d) s Q = Q d s := by with_unfolding_all exact ev_C_0
theorem ev_V {m : M D} {Q : BR → DS → Prop} : Ev (mV m) s Q = Ev m s fun d s' => Q (.val d) s' := by with_unfolding_all exact ev_V_0
theorem ev_slot {i : Nat} {Q : BR → DS → Prop} : Ev (mSlot i) s Q = So (look s i) fun _ => Q (.slot i) s := by with_unfolding_all exact ev_slot_0
theorem ev_op {f : D → D → Option D} {a b : M BR} {Q : D → DS → Prop} : Ev (mOp f a b) s Q = Ev a s fun x s1 => Ev b s1 fun y s2 => So (res s2 x) fun dx => So (res s2 y) fun dy => So (f dx dy) fun d => Q d s2 := by with_unfolding_all exact ev_op_0
theorem ev_un {f : D → Option D} {a : M BR} {Q : D → DS → Prop} : Ev (mUn f a) s Q = Ev a s fun x s1 => So (res s1 x) fun dx => So (f dx) fun d => Q d s1 := by with_unfolding_all exact ev_un_0
theorem ev_B {m : M D} {Q : Bool → DS → Prop} : Ev (mB m) s Q = Ev m s fun d s' => So (tru d) fun b => Q b s' := by with_unfolding_all exact ev_B_0
theorem ev_not {a : M Bool} {Q : Bool → DS → Prop} : Ev (mNot a) s Q = Ev a s fun x s' => Q (!x) s' := by with_unfolding_all exact ev_not_0
theorem ev_notV {a : M D} {Q : D → DS → Prop} : Ev (mNotV a) s Q = Ev (mB a) s fun x s' => Q (.bool (!x)) s' := by with_unfolding_all exact ev_notV_0
theorem ev_nil {Q : List D → DS → Prop} : Ev mNil s Q = Q [] s := by with_unfolding_all exact ev_nil_0
theorem ev_cons {a : M D} {r : M (List D)} {Q : List D → DS → Prop} : Ev (mCons a r) s Q = Ev a s fun x s1 => Ev r s1 fun xs s2 => Q (x :: xs) s2 := by with_unfolding_all exact ev_cons_0
theorem ev_nilB {Q : List BR → DS → Prop} : Ev mNilB s Q = Q [] s := by with_unfolding_all exact ev_nilB_0
theorem ev_consB {a : M BR} {r : M (List BR)} {Q : List BR → DS → Prop} : Ev (mConsB a r) s Q = Ev a s fun x s1 => Ev r s1 fun xs s2 => Q (x :: xs) s2 := by with_unfolding_all exact ev_consB_0
theorem ev_tup {a : M (List D)} {Q : D → DS → Prop} : Ev (mTup a) s Q = Ev a s fun xs s' => fits xs.length = true ∧ Q (.tuple xs) s' := by with_unfolding_all exact ev_tup_0
theorem ev_lst {a : M (List D)} {Q : D → DS → Prop} : Ev (mLst a) s Q = Ev a s fun xs s' => fits xs.length = true ∧ Q (.list xs) s' := by with_unfolding_all exact ev_lst_0
theorem ev_B1 {f : List D → Option D} {a : M (List BR)} {Q : D → DS → Prop} : Ev (mB1 f a) s Q = Ev a s fun xs s' => So (xs.mapM (res s')) fun ds => So (f ds) fun d => Q d s' := by with_unfolding_all exact ev_B1_0
theorem ev_sl {a : M BR} {lo hi : M (Option Int)} {Q : D → DS → Prop} : Ev (mSl a lo hi) s Q = Ev a s fun x s1 => Ev lo s1 fun l s2 => Ev hi s2 fun h s3 => So (res s3 x) fun d => So (slD d l h) fun r => Q r s3 := by with_unfolding_all exact ev_sl_0
theorem ev_P0 {Q : Option Int → DS → Prop} : Ev mP0 s Q = Q none s := by with_unfolding_all exact ev_P0_0
theorem ev_P1 {m : M D} {Q : Option Int → DS → Prop} : Ev (mP1 m) s Q = Ev m s fun d s' => So (iof d) fun i => Q (some i) s' := by with_unfolding_all exact ev_P1_0
theorem ev_Rg1 {m : M D} {Q : Int × Int → DS → Prop} : Ev (mRg1 m) s Q = Ev m s fun d s' => So (iof d) fun i => Q (0, i) s' := by with_unfolding_all exact ev_Rg1_0
theorem ev_Rg2 {m n : M D} {Q : Int × Int → DS → Prop} : Ev (mRg2 m n) s Q = Ev m s fun d s1 => Ev n s1 fun e s' => So (iof d) fun i => So (iof e) fun j => Q (i, j) s' := by with_unfolding_all exact ev_Rg2_0
theorem ev_LstRg {m : M (Int × Int)} {Q : D → DS → Prop} : Ev (mLstRg m) s Q = Ev m s fun p s' => rgC p.1 p.2 = true ∧ Q (.list (rgD p.1 p.2)) s' := by with_unfolding_all exact ev_LstRg_0
theorem ev_It {m : M D} {Q : List D → DS → Prop} : Ev (mIt m) s Q = Ev m s fun d s' => So (itD d) fun xs => Q xs s' := by with_unfolding_all exact ev_It_0
theorem ev_R1 {m : M (List D)} {Q : List D → DS → Prop} : Ev (mR1 m) s Q = Ev m s fun d s' => So (r1D d) fun j => rngC 0 j = true ∧ Q (rgD 0 j) s' := by with_unfolding_all exact ev_R1_0
theorem ev_R2 {m : M (List D)} {Q : List D → DS → Prop} : Ev (mR2 m) s Q = Ev m s fun d s' => So (r2D d) fun p => rngC p.1 p.2 = true ∧ Q (rgD p.1 p.2) s' := by with_unfolding_all exact ev_R2_0
theorem run_nx : Run sNx s Nx Rt Bk Ct Ex = Nx s := by with_unfolding_all exact run_nx_0
theorem run_no : Run sNo s Nx Rt Bk Ct Ex = False := by with_unfolding_all exact run_no_0
theorem run_bk : Run sBk s Nx Rt Bk Ct Ex = Bk s := by with_unfolding_all exact run_bk_0
theorem run_ct : Run sCt s Nx Rt Bk Ct Ex = Ct s := by with_unfolding_all exact run_ct_0
theorem run_seq {a b : MS} : Run (sSeq a b) s Nx Rt Bk Ct Ex = Run a s (fun s' => Run b s' Nx Rt Bk Ct Ex) Rt Bk Ct Ex := by with_unfolding_all exact run_seq_0
theorem run_set {i : Nat} {m : M D} : Run (sSet i m) s Nx Rt Bk Ct Ex = Ev m s fun d s' => Nx (s'.set i (some d)) := by with_unfolding_all exact run_set_0
theorem run_drop {m : M D} : Run (sDrop m) s Nx Rt Bk Ct Ex = Ev m s fun _ s' => Nx s' := by with_unfolding_all exact run_drop_0
theorem run_ret {m : M D} : Run (sRet m) s Nx Rt Bk Ct Ex = Ev m s fun d s' => Rt d s' := by with_unfolding_all exact run_ret_0
theorem run_asg {m : M D} {g : MG} : Run (sAsg m g) s Nx Rt Bk Ct Ex = Ev m s fun d s' => So (g d s') fun s2 => Nx s2 := by with_unfolding_all exact run_asg_0
theorem run_app {i : Nat} {m : M D} : Run (sApp i m) s Nx Rt Bk Ct Ex = So (look s i) fun d0 => So (lof d0) fun _ => Ev m s fun d s' => So (look s' i) fun d1 => So (lof d1) fun xs => decide (xs.length < sizeLine) = true ∧ Nx (s'.set i (some (.list (xs ++ [d])))) := by with_unfolding_all exact run_app_0
theorem run_put {i : Nat} {me m : M D} : Run (sPut i me m) s Nx Rt Bk Ct Ex = Ev m s fun d s1 => So (look s1 i) fun d0 => So (lof d0) fun _ => Ev me s1 fun k s2 => So (iof k) fun z => So (look s2 i) fun d1 => So (lof d1) fun xs => So (ixN xs.length z) fun j => Nx (s2.set i (some (.list (xs.set j d)))) := by with_unfolding_all exact run_put_0
theorem run_aug {i : Nat} {f : D → D → Option D} {m : M D} : Run (sAug i f m) s Nx Rt Bk Ct Ex = So (look s i) fun x => Ev m s fun y s' => So (f x y) fun z => Nx (s'.set i (some z)) := by with_unfolding_all exact run_aug_0
theorem run_frz {i : Nat} {b : MS} : Run (sFrz i b) s Nx Rt Bk Ct Ex = So (look s i) fun _ => Run b s Nx Rt Bk Ct Ex := by with_unfolding_all exact run_frz_0
theorem run_kill {i : Nat} {b : MS} : Run (sKill i b) s Nx Rt Bk Ct Ex = Run b (s.set i none) Nx Rt Bk Ct Ex := by with_unfolding_all exact run_kill_0
end
section
variable {s : DS} {Nx : DS → Prop} {Rt : D → DS → Prop} {Bk Ct : DS → Prop} {Ex : Xc → DS → Prop}
theorem so_mapN {α β : Type} {f : α → Option β} {Q : List β → Prop} : So (List.mapM f []) Q = Q [] := by with_unfolding_all exact so_mapN_0
theorem so_mapC {α β : Type} {f : α → Option β} {x : α} {l : List α} {Q : List β → Prop} : So (List.mapM f (x :: l)) Q = So (f x) fun a => So (List.mapM f l) fun as => Q (a :: as) := by with_unfolding_all exact so_mapC_0
theorem lks_eq {n : Nat} {Q : List D → Prop} : So ((List.range n).mapM (look s)) Q = So ((List.range' 0 n).mapM (look s)) Q := by with_unfolding_all exact lks_eq_0
theorem xv_and {a b : M Bool} {Q : Bool → DS → Prop} : Ev (mAnd a b) s Q = Ev a s fun x s' => Br x (Ev b s' Q) (Q false s') := by with_unfolding_all exact xv_and_0
theorem xv_or {a b : M Bool} {Q : Bool → DS → Prop} : Ev (mOr a b) s Q = Ev a s fun x s' => Br x (Q true s') (Ev b s' Q) := by with_unfolding_all exact xv_or_0
theorem xv_andV {a b : M D} {Q : D → DS → Prop} : Ev (mAndV a b) s Q = Ev (mB a) s fun x s' => Br x (Ev b s' Q) (Q (.bool false) s') := by with_unfolding_all exact xv_andV_0
theorem xv_orV {a b : M D} {Q : D → DS → Prop} : Ev (mOrV a b) s Q = Ev (mB a) s fun x s' => Br x (Q (.bool true) s') (Ev b s' Q) := by with_unfolding_all exact xv_orV_0
theorem xv_if {t : M Bool} {a b : M D} {Q : D → DS → Prop} : Ev (mIf t a b) s Q = Ev t s fun x s' => Br x (Ev a s' Q) (Ev b s' Q) := by with_unfolding_all exact xv_if_0
theorem xv_chain {f g : D → D → Option D} {a b c : M D} {Q : D → DS → Prop} : Ev (mChain f g a b c) s Q = Ev a s fun x s1 => Ev b s1 fun y s2 => So (f x y) fun z => So (tru z) fun k => Br k (Ev c s2 fun w s3 => So (g y w) fun r => Q r s3) (Q (.bool false) s2) := by with_unfolding_all exact xv_chain_0
theorem xr_if {t : M Bool} {a b : MS} : Run (sIf t a b) s Nx Rt Bk Ct Ex = Ev t s fun x s' => Br x (Run a s' Nx Rt Bk Ct Ex) (Run b s' Nx Rt Bk Ct Ex) := by with_unfolding_all exact xr_if_0
theorem xv_call {f : FD} {n : Nat} {a : M (List D)} {Q : D → DS → Prop} : Ev (mCall f n a) s Q = Ev a s fun xs s' => xs.length = n ∧ Cl f xs fun d _ => Q d s' := by with_unfolding_all exact xv_call_0
theorem xv_call1 {f : FD} {n j : Nat} {a : M (List D)} {Q : D → DS → Prop} : Ev (mCall1 f n j a) s Q = So (look s j) fun _ => Ev a s fun xs s' => So (look s' j) fun e => xs.length = n ∧ Cl f (e :: xs) fun d as => So (hdO as) fun e' => Q d (s'.set j (some e')) := by with_unfolding_all exact xv_call1_0
theorem xv_callT {f : FD} {n : Nat} {m0 : M D} {a : M (List D)} {Q : D → DS → Prop} : Ev (mCallT f n m0 a) s Q = Ev m0 s fun e s1 => Ev a s1 fun xs s' => xs.length = n ∧ Cl f (e :: xs) fun d as => So (hdO as) fun _ => Q d s' := by with_unfolding_all exact xv_callT_0
theorem hdC {a : D} {as : List D} {Q : D → Prop} : So (hdO (a :: as)) Q = Q a := by with_unfolding_all exact hdC_0
variable {i j : Int} {Q : D → Prop}
theorem so_add : So (addD (.int i) (.int j)) Q = Q (.int (i + j)) := by with_unfolding_all exact so_add_0
theorem so_sub : So (subI (.int i) (.int j)) Q = Q (.int (i - j)) := by with_unfolding_all exact so_sub_0
theorem so_addN : So (addN (.int i) (.int j)) Q = Q (.int (i + j)) := by with_unfolding_all exact so_addN_0
theorem so_subN : So (subN (.int i) (.int j)) Q = Q (.int (i - j)) := by with_unfolding_all exact so_subN_0
theorem so_mul : So (mulI (.int i) (.int j)) Q = (mulC i j = true ∧ Q (.int (i * j))) := by with_unfolding_all exact so_mul_0
theorem so_div : So (divI (.int i) (.int j)) Q = (divC i j = true ∧ Q (.int (i / j))) := by with_unfolding_all exact so_div_0
theorem so_mod : So (modI (.int i) (.int j)) Q = (modC i j = true ∧ Q (.int (i % j))) := by with_unfolding_all exact so_mod_0
theorem so_pow : So (powI (.int i) (.int j)) Q = (powC i j = true ∧ Q (.int (i ^ j.toNat))) := by with_unfolding_all exact so_pow_0
theorem so_shl : So (shlI (.int i) (.int j)) Q = (shlC i j = true ∧ Q (.int (i * 2 ^ j.toNat))) := by with_unfolding_all exact so_shl_0
theorem so_shr : So (shrI (.int i) (.int j)) Q = (shrC i j = true ∧ Q (.int (i / 2 ^ j.toNat))) := by with_unfolding_all exact so_shr_0
theorem so_and : So (andI (.int i) (.int j)) Q = Q (.int (Builtin.bitAnd i j)) := by with_unfolding_all exact so_and_0
theorem so_or : So (orI (.int i) (.int j)) Q = Q (.int (Builtin.bitOr i j)) := by with_unfolding_all exact so_or_0
theorem so_xor : So (xorI (.int i) (.int j)) Q = Q (.int (Builtin.bitXor i j)) := by with_unfolding_all exact so_xor_0
theorem so_lt : So (ltI (.int i) (.int j)) Q = Q (.bool (decide (i < j))) := by with_unfolding_all exact so_lt_0
theorem so_le : So (leI (.int i) (.int j)) Q = Q (.bool (decide (i ≤ j))) := by with_unfolding_all exact so_le_0
theorem so_gt : So (gtI (.int i) (.int j)) Q = Q (.bool (decide (j < i))) := by with_unfolding_all exact so_gt_0
theorem so_ge : So (geI (.int i) (.int j)) Q = Q (.bool (decide (j ≤ i))) := by with_unfolding_all exact so_ge_0
theorem so_eqI : So (eqD (.int i) (.int j)) Q = Q (.bool (decide (i = j))) := by with_unfolding_all exact so_eqI_0
theorem so_neI : So (neD (.int i) (.int j)) Q = Q (.bool (!decide (i = j))) := by with_unfolding_all exact so_neI_0
theorem so_neg : So (negI (.int i)) Q = Q (.int (-i)) := by with_unfolding_all exact so_neg_0
theorem so_isN {d : D} : So (isN d .none) Q = Q (.bool (nonB d)) := by with_unfolding_all exact so_isN_0
theorem so_notN {d : D} : So (notN d .none) Q = Q (.bool (!nonB d)) := by with_unfolding_all exact so_notN_0
theorem so_ixL {l : List D} : So (ixD (.list l) (.int i)) Q = So (atI l i) Q := by with_unfolding_all exact so_ixL_0
theorem so_ixT {l : List D} : So (ixD (.tuple l) (.int i)) Q = So (atI l i) Q := by with_unfolding_all exact so_ixT_0
theorem ix0 {α : Type} {a : α} {l : List α} {Q : Nat → Prop} : So (ixN (a :: l).length 0) Q = Q 0 := by with_unfolding_all exact ix0_0
theorem ix1 {α : Type} {a b : α} {l : List α} {Q : Nat → Prop} : So (ixN (a :: b :: l).length 1) Q = Q 1 := by with_unfolding_all exact ix1_0
theorem ix2 {α : Type} {a b c : α} {l : List α} {Q : Nat → Prop} : So (ixN (a :: b :: c :: l).length 2) Q = Q 2 := by with_unfolding_all exact ix2_0
theorem so_tru {b : Bool} {Q : Bool → Prop} : So (tru (.bool b)) Q = Q b := by with_unfolding_all exact so_tru_0
theorem so_iof {Q : Int → Prop} : So (iof (.int i)) Q = Q i := by with_unfolding_all exact so_iof_0
theorem so_lof {l : List D} {Q : List D → Prop} : So (lof (.list l)) Q = Q l := by with_unfolding_all exact so_lof_0
theorem so_itL {l : List D} {Q : List D → Prop} : So (itD (.list l)) Q = Q l := by with_unfolding_all exact so_itL_0
theorem so_itT {l : List D} {Q : List D → Prop} : So (itD (.tuple l)) Q = Q l := by with_unfolding_all exact so_itT_0
theorem so_r1 {Q : Int → Prop} : So (r1D [.int i]) Q = Q i := by with_unfolding_all exact so_r1_0
theorem so_r2 {Q : Int × Int → Prop} : So (r2D [.int i, .int j]) Q = Q (i, j) := by with_unfolding_all exact so_r2_0
theorem so_abs : So (absD [.int i]) Q = Q (.int (if i < 0 then -i else i)) := by with_unfolding_all exact so_abs_0
theorem so_max : So (maxD [.int i, .int j]) Q = Q (.int (if j > i then j else i)) := by with_unfolding_all exact so_max_0
theorem so_min : So (minD [.int i, .int j]) Q = Q (.int (if j < i then j else i)) := by with_unfolding_all exact so_min_0
theorem so_intB {b : Bool} : So (intD [.bool b]) Q = Q (.int (if b then 1 else 0)) := by with_unfolding_all exact so_intB_0
theorem so_intI : So (intD [.int i]) Q = Q (.int i) := by with_unfolding_all exact so_intI_0
theorem so_cat {l k : List D} : So (addD (.list l) (.list k)) Q = (fits (l.length + k.length) = true ∧ Q (.list (l ++ k))) := by with_unfolding_all exact so_cat_0
end
section
variable {s : DS} {Nx : DS → Prop} {Rt : D → DS → Prop} {Bk Ct : DS → Prop} {Ex : Xc → DS → Prop} {Q : DS → Prop}
theorem so_gN {i : Nat} {d : D} : So (gN i d s) Q = Q (s.set i (some d)) := by with_unfolding_all exact so_gN_0
theorem so_gT {n : Nat} {g : List D → DS → Option DS} {xs : List D} : So (gT n g (.tuple xs) s) Q = (xs.length = n ∧ So (g xs s) Q) := by with_unfolding_all exact so_gT_0
theorem so_gL {n : Nat} {g : List D → DS → Option DS} {xs : List D} : So (gL n g (.list xs) s) Q = (xs.length = n ∧ So (g xs s) Q) := by with_unfolding_all exact so_gL_0
theorem so_gC {a : MG} {r : List D → DS → Option DS} {x : D} {ys : List D} : So (gC a r (x :: ys) s) Q = So (a x s) fun s' => So (r ys s') Q := by with_unfolding_all exact so_gC_0
theorem so_gE : So (gE [] s) Q = Q s := by with_unfolding_all exact so_gE_0
theorem run_fo {mi : M (List D)} {g : MG} {b : MS} : Run (sFor mi g b) s Nx Rt Bk Ct Ex = Ev mi s fun xs s' => Fo xs s' g b Nx Rt Bk Ct Ex := by with_unfolding_all exact run_fo_0
theorem run_wh {t : M Bool} {b : MS} : Run (sWhile t b) s Nx Rt Bk Ct Ex = Wh t b s Nx Rt Bk Ct Ex := by with_unfolding_all exact run_wh_0
theorem so_lenL {l : List D} {Q : D → Prop} : So (lenD [.list l]) Q = Q (.int l.length) := by with_unfolding_all exact so_lenL_0
theorem so_lenT {l : List D} {Q : D → Prop} : So (lenD [.tuple l]) Q = Q (.int l.length) := by with_unfolding_all exact so_lenT_0
theorem so_slL {l : List D} {lo hi : Option Int} {Q : D → Prop} : So (slD (.list l) lo hi) Q = Q (.list (cutD l lo hi)) := by with_unfolding_all exact so_slL_0
theorem so_map {α β : Type} {o : Option α} {f : α → β} {Q : β → Prop} : So (o.map f) Q = So o fun a => Q (f a) := by with_unfolding_all exact so_map_0
end
section
variable {Q : D → Prop} {x : D} {l : List D}
theorem so_inL : So (inD x (.list l)) Q = ((flatD x && l.all flatD) = true ∧ Q (.bool (l.any fun y => eqF y x))) := by with_unfolding_all exact so_inL_0
theorem so_inT : So (inD x (.tuple l)) Q = ((flatD x && l.all flatD) = true ∧ Q (.bool (l.any fun y => eqF y x))) := by with_unfolding_all exact so_inT_0
theorem so_ninL : So (notInD x (.list l)) Q = ((flatD x && l.all flatD) = true ∧ Q (.bool (!l.any fun y => eqF y x))) := by with_unfolding_all exact so_ninL_0
theorem so_ninT : So (notInD x (.tuple l)) Q = ((flatD x && l.all flatD) = true ∧ Q (.bool (!l.any fun y => eqF y x))) := by with_unfolding_all exact so_ninT_0
end
end Z
set_option Elab.async false
set_option linter.all false
set_option maxRecDepth 100000
namespace Z
open PySem L2 PyProof.Rows
section
variable {prog : Program} {w : World} {A : Around} {E : Value → Shared → Prop} {s : Shared}
end
section
variable {X : Cx}
end
def maxT : List D → Option D
  | [.int i, .int j] => some (.int (if j > i then j else i))
  | [.tuple [.int i, .int j]] => some (.int (if j > i then j else i))
  | _ => none
section
variable {i j : Int} {Q : D → Prop}
theorem so_maxI : So (maxT [.int i, .int j]) Q = Q (.int (if j > i then j else i)) := by with_unfolding_all exact nr rfl
theorem so_maxT : So (maxT [.tuple [.int i, .int j]]) Q = Q (.int (if j > i then j else i)) := by with_unfolding_all exact nr rfl
end
end Z
set_option Elab.async false
set_option linter.all false
set_option maxRecDepth 100000
namespace Z
open PySem L2
def wipeD (s : DS) : List Nat → DS
  | [] => s
  | v :: vs => (wipeD s vs).set v none
def back (s1 s2 : DS) : List Nat → DS
  | [] => s2
  | v :: vs => (back s1 s2 vs).set v (s1[v]?.getD none)
def lcl (g : MG) (t : M Bool) (e : M D) (vs : List Nat) : List D → DS → R (List D)
  | [], s => .ok [] s
  | x :: xs, s => match g x s with
    | none => .no
    | some s2 => match t s2 with
      | .no => .no
      | .ok false s3 => lcl g t e vs xs (wipeD s3 vs)
      | .ok true s3 => match e s3 with
        | .no => .no
        | .ok y s4 => match lcl g t e vs xs (wipeD s4 vs) with
          | .ok ys s5 => .ok (y :: ys) s5
          | .no => .no
def mLc (mi : M (List D)) (g : MG) (t : M Bool) (e : M D) (vs : List Nat) : M D := fun s => match mi s with
  | .no => .no
  | .ok xs s1 => match lcl g t e vs xs (wipeD s1 vs) with
    | .no => .no
    | .ok ys s2 => if fits ys.length then .ok (.list ys) (back s1 s2 vs) else .no
def mYes : M Bool := fun s => .ok true s
section
variable {K : Fg} {c : Ctx} {O : List Kd}
theorem wipe_get (σ : St) : ∀ (vs : List Nat) (i : Nat), i ∉ vs → (wipe σ vs)[i]? = σ[i]?
  | [], _, _ => rfl
  | v :: vs, i, h => by
    unfold wipe
    rw [List.getElem?_set_ne (fun z => h (by rw [z]; exact List.mem_cons_self))]
    exact wipe_get σ vs i fun z => h (List.mem_cons_of_mem _ z)
theorem wipeD_get (s : DS) : ∀ (vs : List Nat) (i : Nat), i ∉ vs → (wipeD s vs)[i]? = s[i]?
  | [], _, _ => rfl
  | v :: vs, i, h => by
    unfold wipeD
    rw [List.getElem?_set_ne (fun z => h (by rw [z]; exact List.mem_cons_self))]
    exact wipeD_get s vs i fun z => h (List.mem_cons_of_mem _ z)
theorem wipeD_len (s : DS) : ∀ vs : List Nat, (wipeD s vs).length = s.length
  | [] => rfl
  | v :: vs => by unfold wipeD; rw [List.length_set, wipeD_len s vs]
theorem wipeD_in (s : DS) : ∀ (vs : List Nat) (i : Nat) (d : D), (wipeD s vs)[i]? = some (some d) → i ∉ vs
  | [], i, d, _ => by simp
  | v :: vs, i, d, h => by
    unfold wipeD at h
    by_cases hi : v = i
    · subst hi
      by_cases hv : v < (wipeD s vs).length
      · rw [List.getElem?_set_self hv] at h; cases h
      · rw [List.getElem?_eq_none (by simpa using hv)] at h; cases h
    · rw [List.getElem?_set_ne hi] at h
      have := wipeD_in s vs i d h
      simp only [List.mem_cons, not_or]
      exact ⟨fun e => hi e.symm, this⟩
theorem back_get (s1 s2 : DS) : ∀ (vs : List Nat) (i : Nat), i ∉ vs → (back s1 s2 vs)[i]? = s2[i]?
  | [], _, _ => rfl
  | v :: vs, i, h => by
    unfold back
    rw [List.getElem?_set_ne (fun z => h (by rw [z]; exact List.mem_cons_self))]
    exact back_get s1 s2 vs i fun z => h (List.mem_cons_of_mem _ z)
theorem back_len (s1 s2 : DS) : ∀ vs : List Nat, (back s1 s2 vs).length = s2.length
  | [] => rfl
  | v :: vs => by unfold back; rw [List.length_set, back_len s1 s2 vs]
theorem back_in (s1 s2 : DS) : ∀ (vs : List Nat) (i : Nat) (d : D), i ∈ vs → (back s1 s2 vs)[i]? = some (some d) → s1[i]? = some (some d)
  | [], i, d, h, _ => absurd h (by simp)
  | v :: vs, i, d, h, e => by
    unfold back at e
    by_cases hi : v = i
    · subst hi
      by_cases hv : v < (back s1 s2 vs).length
      · rw [List.getElem?_set_self hv] at e
        cases z : s1[v]? with
        | none => rw [z] at e; cases e
        | some o => rw [z] at e; simpa using e
      · rw [List.getElem?_eq_none (by simpa using hv)] at e; cases e
    · rw [List.getElem?_set_ne hi] at e
      rcases List.mem_cons.mp h with z | z
      · exact absurd z.symm hi
      · exact back_in s1 s2 vs i d z e
theorem wipe_wipe (σ : St) (vs : List Nat) : wipe (wipe σ vs) vs = wipe σ vs := by
  apply List.ext_getElem?
  intro i
  by_cases h : i ∈ vs
  · have key : ∀ (τ : St) (ws : List Nat), i ∈ ws → (wipe τ ws)[i]? = if i < τ.length then some none else none := fun τ ws => by
      induction ws with
      | nil => intro h; exact absurd h (by simp)
      | cons w ws ih =>
        intro h
        unfold wipe
        by_cases z : w = i
        · subst z
          by_cases hl : w < τ.length
          · rw [List.getElem?_set_self (by rw [wipe_length]; exact hl), if_pos hl]
          · rw [List.getElem?_eq_none (by rw [List.length_set, wipe_length]; omega), if_neg hl]
        · rw [List.getElem?_set_ne z]
          rcases List.mem_cons.mp h with y | y
          · exact absurd y.symm z
          · exact ih y
    rw [key _ _ h, key _ _ h, wipe_length]
  · rw [wipe_get _ _ _ h]
theorem wipe_set (σ : St) (vs : List Nat) (i : Nat) (x : Option V) (h : i ∈ vs) : wipe (σ.set i x) vs = wipe σ vs := by
  induction vs with
  | nil => exact absurd h (by simp)
  | cons v vs ih =>
    unfold wipe
    by_cases z : i ∈ vs
    · rw [ih z]
    · have e : i = v := by
        rcases List.mem_cons.mp h with y | y
        · exact y
        · exact absurd y z
      subst e
      apply List.ext_getElem?
      intro j
      by_cases hj : i = j
      · subst hj
        by_cases hl : i < σ.length
        · rw [List.getElem?_set_self (by rw [wipe_length, List.length_set]; exact hl), List.getElem?_set_self (by rw [wipe_length]; exact hl)]
        · rw [List.getElem?_eq_none (by rw [List.length_set, wipe_length, List.length_set]; omega), List.getElem?_eq_none (by rw [List.length_set, wipe_length]; omega)]
      · rw [List.getElem?_set_ne hj, List.getElem?_set_ne hj]
        by_cases y : j ∈ vs
        · have key : ∀ (τ : St) (ws : List Nat), j ∈ ws → (wipe τ ws)[j]? = if j < τ.length then some none else none := fun τ ws => by
            induction ws with
            | nil => intro h; exact absurd h (by simp)
            | cons w ws ih =>
              intro h
              unfold wipe
              by_cases z : w = j
              · subst z
                by_cases hl : w < τ.length
                · rw [List.getElem?_set_self (by rw [wipe_length]; exact hl), if_pos hl]
                · rw [List.getElem?_eq_none (by rw [List.length_set, wipe_length]; omega), if_neg hl]
              · rw [List.getElem?_set_ne z]
                rcases List.mem_cons.mp h with y | y
                · exact absurd y.symm z
                · exact ih y
          rw [key _ _ y, key _ _ y, List.length_set]
        · rw [wipe_get _ _ _ y, wipe_get _ _ _ y, List.getElem?_set_ne hj]
structure DV (K : Fg) (c : Ctx) (O : List Kd) (vs : List Nat) (g : TG) (mg : MG) : Prop where
  run : ∀ {F H : Hp} {σ : St} {fps : Nat → List Addr} {ds ds' : DS} {v : V} {d : D}, Rel K c O F H σ fps ds → Dp K F v d → mg d ds = some ds' → ∀ Q : St → Hp → Prop,
    (∀ σ' fps', Rel K c O F H σ' fps' ds' → wipe σ' vs = wipe σ vs → Q σ' H) → g v σ H Q
structure DVs (K : Fg) (c : Ctx) (O : List Kd) (vs : List Nat) (g : TGs) (mg : List D → DS → Option DS) : Prop where
  run : ∀ {F H : Hp} {σ : St} {fps : Nat → List Addr} {ds ds' : DS} {us : List V} {es : List D}, Rel K c O F H σ fps ds → DpAll K F us es → mg es ds = some ds' → ∀ Q : St → Hp → Prop,
    (∀ σ' fps', Rel K c O F H σ' fps' ds' → wipe σ' vs = wipe σ vs → Q σ' H) → g us σ H Q
variable {vs : List Nat}
theorem v_name (i : Nat) (hi : O[i]? = some .sh := by rfl) (hv : i ∈ vs := by decide) : DV K c O vs (gName i) (gN i) := ⟨fun {F H σ fps ds ds' v d} r dp e Q q => by
  cases e
  have hl : i < O.length := (List.getElem?_eq_some_iff.mp hi).1
  have r' := r.put hl (by rw [hi]; rfl) (k := .sh) (v := v) (d := d) (fpv := []) ⟨rfl, dp⟩ (fun q hq => absurd hq (by simp)) (by simp)
  have eO : O.set i .sh = O := by
    apply List.ext_getElem?
    intro j
    by_cases z : j = i
    · subst z; rw [List.getElem?_set_self hl, hi]
    · rw [List.getElem?_set_ne (Ne.symm z)]
  rw [eO] at r'
  exact q _ _ r' (wipe_set _ _ _ _ hv)⟩
theorem vs_nil : DVs K c O vs gNil gE := ⟨fun {F H σ fps ds ds' us es} r al e Q q => by
  cases al with
  | nil => cases e; exact ⟨rfl, q _ _ r rfl⟩
  | cons _ _ => cases e⟩
theorem vs_cons {g : TG} {gs : TGs} {a : MG} {b : List D → DS → Option DS} (h1 : DV K c O vs g a) (h2 : DVs K c O vs gs b) : DVs K c O vs (gCons g gs) (gC a b) := ⟨fun {F H σ fps ds ds' us es} r al e Q q => by
  cases al with
  | nil => cases e
  | cons dp al =>
    unfold gC at e
    dsimp only at e
    split at e
    · rename_i s' hs
      exact ⟨_, _, rfl, h1.run r dp hs _ fun σ1 fps1 r1 e1 => h2.run r1 al e Q fun σ2 fps2 r2 e2 => q σ2 fps2 r2 (e2.trans e1)⟩
    · cases e⟩
theorem v_tup {n : Nat} {gs : TGs} {b : List D → DS → Option DS} (h : DVs K c O vs gs b) : DV K c O vs (gTup K n gs) (gT n b) := ⟨fun {F H σ fps ds ds' v d} r dp e Q q => by
  unfold gT at e
  split at e
  · split at e
    · rename_i hn
      cases dp with
      | tup hq al => exact ⟨_, _, rfl, sqT_mono r.sub hq, by rw [dpa_len al]; exact hn, h.run r al e Q q⟩
    · cases e
  · cases e⟩
theorem d_yes : DT K c O tYes mYes := ⟨fun r e Q q => by
  cases e
  exact q _ _ _ (Same.refl _) r⟩
theorem DE.o {te : TE} {m : M D} (h : DE K c O te m) : DO K c O .sh te m := ⟨fun {F H σ fps ds ds' d} r e Q q => h.run r e Q fun F1 H1 fps1 v s r1 dp => q F1 H1 fps1 v [] s r1 ⟨rfl, dp⟩ (fun q hq => absurd hq (by simp)) (by simp)⟩
section
variable {F1 H1 F2 H2 : Hp} {σ1 σ2 : St} {fps1 fps2 : Nat → List Addr} {ds1 ds2 : DS}
theorem Rel.out (r2 : Rel K (c.from O F1 H1 fps1) O F2 H2 σ2 fps2 ds2) {q : Addr} (h1 : F1 q = none) (h2 : H1 q ≠ none) (h4 : ∀ i, q ∉ fps1 i) : H2 q = H1 q ∧ F2 q = none ∧ ∀ i, q ∉ fps2 i := by
  have hH : (c.from O F1 H1 fps1).H0 q = H1 q := from_some fun ⟨i, hi, _⟩ => h4 i hi
  refine ⟨?_, ?_, fun i hi => ?_⟩
  · cases z : H1 q with
    | none => exact absurd z h2
    | some o => exact r2.keep q o (by rw [hH]; exact z) fun ⟨i, hi, _⟩ => h4 i hi
  · cases z : F2 q with
    | none => rfl
    | some o =>
      rcases r2.new q o z with h | h
      · have h' : F1 q = some o := h
        rw [h1] at h'; cases h'
      · rw [hH] at h; exact absurd h h2
  · rcases (r2.off i q hi).2.2 with h | ⟨⟨hj, _⟩, _⟩
    · rw [hH] at h; exact h2 h
    · exact h4 i hj
theorem Rel.unfocus' (r : Rel K c O F1 H1 σ1 fps1 ds1) (r2 : Rel K (c.from O F1 H1 fps1) O F2 H2 σ2 fps2 ds2) : Rel K c O F2 H2 σ2 fps2 ds2 := by
  have hn : ∀ b, (c.from O F1 H1 fps1).H0 b = none → c.H0 b = none := fun b h => by
    rcases from_none h with ⟨i, hi, hp⟩ | h
    · rcases (r.off i b hi).2.2 with h | ⟨_, h⟩
      · exact h
      · rw [hp] at h; cases h
    · exact r.live b h
  refine ⟨r2.sub, r.base.trans r2.base, fun b o e n => ?_, fun b e => hn b (r2.live b e), fun b o e => ?_, r2.slots, fun i q hq => ?_, r2.nd, r2.dj, r2.par, r2.len⟩
  · have hb : ∀ i, b ∉ fps1 i := fun i hi => by
      rcases (r.off i b hi).2.2 with h | ⟨h, _⟩
      · rw [h] at e; cases e
      · exact n ⟨_, h⟩
    refine r2.keep b o ?_ (fun ⟨i, hi, _⟩ => hb i hi)
    rw [from_some (fun ⟨i, hi, _⟩ => hb i hi)]
    exact r.keep b o e n
  · rcases r2.new b o e with h | h
    · exact r.new b o h
    · exact .inr (hn b h)
  · obtain ⟨h1, h2, h3⟩ := r2.off i q hq
    refine ⟨h1, h2, ?_⟩
    rcases h3 with h3 | ⟨⟨hj, _⟩, h3⟩
    · exact .inl (hn q h3)
    · exact (r.off i q hj).2.2
theorem Rel.updO (r : Rel K c O F1 H1 σ1 fps1 ds1) {p : Addr} (hF : F1 p = none) (h0 : c.H0 p = none) (hq : ∀ i, p ∉ fps1 i) (o : HO) : Rel K c O F1 (upd H1 p o) σ1 fps1 ds1 := by
  refine ⟨fun b u e => ?_, r.base, fun b u e n => ?_, fun b e => ?_, r.new, fun i d e => ?_, fun i q hqi => ?_, r.nd, r.dj, r.par, r.len⟩
  · rw [upd_ne (ne_of_none e hF)]; exact r.sub b u e
  · have hb : b ≠ p := fun z => by subst z; rw [h0] at e; cases e
    rw [upd_ne hb]; exact r.keep b u e n
  · by_cases hb : b = p
    · subst hb; rw [upd_same] at e; cases e
    · rw [upd_ne hb] at e; exact r.live b e
  · obtain ⟨v, hv, ho⟩ := r.slots i d e
    exact ⟨v, hv, ow_mono (Same.refl _) ho fun q hq' => upd_ne fun z => by subst z; exact hq i hq'⟩
  · obtain ⟨a, b, cc⟩ := r.off i q hqi
    have hb : q ≠ p := fun z => by subst z; exact hq i hqi
    rw [upd_ne hb]; exact ⟨a, b, cc⟩
theorem Rel.wiped (r : Rel K c O F1 H1 σ1 fps1 ds1) (hv : ∀ v ∈ vs, O[v]? = some .sh) : Rel K c O F1 H1 (wipe σ1 vs) fps1 (wipeD ds1 vs) := by
  refine ⟨r.sub, r.base, r.keep, r.live, r.new, fun i d e => ?_, r.off, r.nd, r.dj, fun i k h => ?_, by rw [wipe_length, wipeD_len]; exact r.len⟩
  · have hi := wipeD_in _ _ _ _ e
    rw [wipeD_get _ _ _ hi] at e
    rw [wipe_get _ _ _ hi]
    exact r.slots i d e
  · obtain ⟨a, b⟩ := r.par i k h
    refine ⟨a, ?_⟩
    rw [wipe_get _ _ _ fun hi => by obtain ⟨k2, a, _⟩ := a; rw [hv i hi] at a; cases a]
    exact b
theorem Rel.backed (r1 : Rel K c O F1 H1 σ1 fps1 ds1) (r2 : Rel K c O F2 H2 σ2 fps2 ds2) (e : wipe σ2 vs = wipe σ1 vs) (s : Same F1 F2) (hv : ∀ v ∈ vs, O[v]? = some .sh) : Rel K c O F2 H2 σ1 (fun j => if j ∈ vs then [] else fps2 j) (back ds1 ds2 vs) := by
  have eg : ∀ i, i ∉ vs → σ2[i]? = σ1[i]? := fun i h => by rw [← wipe_get σ2 vs i h, e, wipe_get σ1 vs i h]
  have sub : ∀ i q, q ∈ (if i ∈ vs then [] else fps2 i) → q ∈ fps2 i := fun i q h => by
    by_cases z : i ∈ vs
    · rw [if_pos z] at h; exact absurd h (by simp)
    · rw [if_neg z] at h; exact h
  refine ⟨r2.sub, r2.base, r2.keep, r2.live, r2.new, fun i d ed => ?_, fun i q hq => r2.off i q (sub i q hq), fun i => ?_, fun i j hij q hq hq' => r2.dj i j hij q (sub i q hq) (sub j q hq'), fun i k h => ?_, ?_⟩
  · by_cases z : i ∈ vs
    · have e1 := back_in _ _ _ _ _ z ed
      obtain ⟨v, hv', ow⟩ := r1.slots i d e1
      refine ⟨v, hv', ?_⟩
      have hk : O.getD i .sh = .sh := by rw [List.getD_eq_getElem?_getD, hv i z]; rfl
      rw [hk] at ow ⊢
      simp only [if_pos z]
      exact ⟨rfl, dp_mono s ow.2⟩
    · rw [back_get _ _ _ _ z] at ed
      obtain ⟨v, hv', ow⟩ := r2.slots i d ed
      rw [eg i z] at hv'
      refine ⟨v, hv', ?_⟩
      simp only [if_neg z]
      exact ow
  · by_cases z : i ∈ vs
    · simp only [if_pos z]; simp
    · simp only [if_neg z]; exact r2.nd i
  · exact r1.par i k h
  · rw [back_len, ← r2.len, ← wipe_length σ1 vs, ← wipe_length σ2 vs, e]
end
structure Acc (K : Fg) (c : Ctx) (k : Kd) (F H : Hp) (fps : Nat → List Addr) (p : Addr) (acc : List V) (ys : List D) (fs : List (List Addr)) : Prop where
  at_ : H p = some (.lst acc)
  off : ∀ q ∈ p :: fs.flatten, F q = none ∧ H q ≠ none ∧ c.H0 q = none ∧ ∀ i, q ∉ fps i
  al : All3 (Ow K F H k) acc ys fs
  nd : (p :: fs.flatten).Nodup
theorem All3.snoc {α β γ : Type} {P : α → β → γ → Prop} {a : α} {b : β} {d : γ} (h : P a b d) : ∀ {xs ys zs}, All3 P xs ys zs → All3 P (xs ++ [a]) (ys ++ [b]) (zs ++ [d])
  | _, _, _, .nil => .cons h .nil
  | _, _, _, .cons p t => .cons p (t.snoc h)
theorem Acc.step {k : Kd} {F1 H1 F2 H2 : Hp} {σ2 : St} {fps1 fps2 : Nat → List Addr} {ds2 : DS} {p : Addr} {acc : List V} {ys : List D} {fs : List (List Addr)} (a : Acc K c k F1 H1 fps1 p acc ys fs)
    (s : Same F1 F2) (r2 : Rel K (c.from O F1 H1 fps1) O F2 H2 σ2 fps2 ds2) : Acc K c k F2 H2 fps2 p acc ys fs := by
  have o := fun q hq => r2.out (a.off q hq).1 (a.off q hq).2.1 (a.off q hq).2.2.2
  refine ⟨by rw [(o p List.mem_cons_self).1]; exact a.at_, fun q hq => ⟨(o q hq).2.1, by rw [(o q hq).1]; exact (a.off q hq).2.1, (a.off q hq).2.2.1, (o q hq).2.2⟩, ?_, a.nd⟩
  exact a.al.imp fun x y z hz ow => ow_mono s ow fun q hq => (o q (List.mem_cons_of_mem _ (List.mem_flatten.mpr ⟨z, hz, hq⟩))).1
theorem o_lc {k : Kd} {wi : TI} {mi : M (List D)} {g : TG} {mg : MG} {tt : TT} {mt : M Bool} {te : TE} {me : M D} (hi : DI K c O wi mi) (hg : ∀ c' : Ctx, DV K c' O vs g mg) (ht : ∀ c' : Ctx, DT K c' O tt mt) (he : ∀ c' : Ctx, DO K c' O k te me)
    (hv : ∀ v ∈ vs, O[v]? = some .sh) : DO K c O (.ls k) (tLc wi g tt te vs) (mLc mi mg mt me vs) := ⟨fun {F H σ fps ds ds' d} r e Q q => by
  unfold mLc at e
  cases e1 : mi ds with
  | no => rw [e1] at e; cases e
  | ok xs s1 =>
    rw [e1] at e
    dsimp only at e
    cases e2 : lcl mg mt me vs xs (wipeD s1 vs) with
    | no => rw [e2] at e; cases e
    | ok ys s2 =>
      rw [e2] at e
      dsimp only at e
      split at e
      · rename_i hf
        cases e
        have hfit := fits_of hf
        refine hi.run r e1 _ fun F1 H1 fps1 J sF r1 wk => ?_
        intro p hp
        obtain ⟨pF, p0, pq⟩ := r1.fresh hp
        have r1' := (r1.allocO hp (.lst [])).wiped hv
        refine ⟨fun i m Hc => m + i = xs.length ∧ ∃ Fc fpc dc acc yc fs rest, Same F1 Fc ∧ Rel K c O Fc Hc (wipe σ vs) fpc dc ∧ Acc K c k Fc Hc fpc p acc yc fs ∧ lcl mg mt me vs (xs.drop i) dc = .ok rest s2 ∧ yc ++ rest = ys,
          ⟨xs.length, by omega, F1, fps1, _, [], [], [], ys, Same.refl _, r1', ⟨upd_same, fun q hq => ?_, .nil, by simp⟩, by rw [List.drop_zero]; exact e2, by simp⟩, ?_⟩
        · have : q = p := by simpa using hq
          subst this
          exact ⟨pF, by rw [upd_same]; simp, p0, pq⟩
        rintro i m Hc ⟨hm, Fc, fpc, dc, acc, yc, fs, rest, sc, rc, ac, el, ey⟩
        obtain ⟨w1, w2⟩ := wk Fc Hc i sc rc.sub
        cases hx : xs[i]? with
        | none =>
          have hl : xs.length ≤ i := List.getElem?_eq_none_iff.mp hx
          refine .inl ⟨w2 (by omega), ?_⟩
          rw [List.drop_of_length_le hl] at el
          unfold lcl at el
          cases el
          rw [List.append_nil] at ey
          subst ey
          refine q Fc Hc _ (.ref p) (p :: fs.flatten) (sF.trans sc) (r1.backed rc (wipe_wipe _ _) sc hv) ⟨p, acc, yc, fs, rfl, rfl, ac.at_, rfl, ac.al⟩ (fun q' hq' => ?_) ac.nd
          obtain ⟨a1, a2, a3, a4⟩ := ac.off q' hq'
          refine ⟨a1, a2, a3, fun j => ?_⟩
          by_cases z : j ∈ vs
          · simp only [if_pos z]; simp
          · simp only [if_neg z]; exact a4 j
        | some d0 =>
          obtain ⟨go, yl⟩ := w1 d0 hx
          have hlt : i < xs.length := (List.getElem?_eq_some_iff.mp hx).1
          have hd : xs.drop i = d0 :: xs.drop (i + 1) := by
            rw [List.drop_eq_getElem_cons hlt]
            congr 1
            rw [List.getElem?_eq_getElem hlt] at hx
            exact Option.some.inj hx
          rw [hd] at el
          unfold lcl at el
          refine .inr ⟨go, fun Hn => ∃ Fc fpc dc acc yc fs rest, Same F1 Fc ∧ Rel K c O Fc Hn (wipe σ vs) fpc dc ∧ Acc K c k Fc Hn fpc p acc yc fs ∧ lcl mg mt me vs (xs.drop (i + 1)) dc = .ok rest s2 ∧ yc ++ rest = ys, fun Hn h => ⟨m - 1, by omega, by omega, h⟩, fun x H3 hy => ?_⟩
          have rf := rc.focus
          obtain ⟨F3, gr, dp⟩ := yl x H3 hy
          obtain ⟨r3, s3⟩ := gr.rel rf
          split at el
          · cases el
          · rename_i s4 hs4
            refine (hg _).run r3 dp hs4 _ fun σ4 fps4 r4 e4 => ⟨by rw [e4, wipe_wipe], ?_⟩
            have e4' : wipe σ4 vs = wipe σ vs := by rw [e4, wipe_wipe]
            cases e5 : mt s4 with
            | no => rw [e5] at el; cases el
            | ok b s5 =>
              rw [e5] at el
              refine (ht _).run r4 e5 _ fun F5 H5 fps5 sF5 r5 => ?_
              cases b with
              | false =>
                refine iteF ?_
                have hs : Same Fc F5 := s3.trans sF5
                have r6 := (rc.unfocus' r5).wiped hv
                rw [e4'] at r6
                exact ⟨F5, fps5, _, acc, yc, fs, rest, sc.trans hs, r6, ac.step hs r5, el, ey⟩
              | true =>
                refine iteT ?_
                dsimp only at el
                cases e6 : me s5 with
                | no => rw [e6] at el; cases el
                | ok y s6 =>
                  rw [e6] at el
                  dsimp only at el
                  cases e7 : lcl mg mt me vs (xs.drop (i + 1)) (wipeD s6 vs) with
                  | no => rw [e7] at el; cases el
                  | ok rs s7 =>
                    rw [e7] at el
                    cases el
                    refine (he _).run r5 e6 _ fun F6 H6 fps6 u fpu sF6 r6 ow hfu ndu => ?_
                    have hs : Same Fc F6 := (s3.trans sF5).trans sF6
                    have a6 := ac.step hs r6
                    have r7 := rc.unfocus' r6
                    have hl : acc.length = yc.length := ac.al.len.1
                    refine ⟨acc, a6.at_, ?_, ?_⟩
                    · rw [hl]
                      have : yc.length + (y :: rs).length = ys.length := by rw [← ey, List.length_append]
                      rw [List.length_cons] at this
                      omega
                    · obtain ⟨pF6, pH6, p06, pq6⟩ := a6.off p List.mem_cons_self
                      have r8 := (r7.updO pF6 p06 pq6 (.lst (acc ++ [u]))).wiped hv
                      rw [e4'] at r8
                      have hpu : p ∉ fpu := fun z => by
                        have := (hfu p z).2.2.1
                        have hh : (c.from O Fc Hc fpc).H0 p = Hc p := from_some fun ⟨i, hi, _⟩ => (ac.off p List.mem_cons_self).2.2.2 i hi
                        rw [hh] at this
                        exact (ac.off p List.mem_cons_self).2.1 this
                      have hfr : ∀ q ∈ fs.flatten, q ∉ fpu := fun q hq z => by
                        have := (hfu q z).2.2.1
                        have hh : (c.from O Fc Hc fpc).H0 q = Hc q := from_some fun ⟨i, hi, _⟩ => (ac.off q (List.mem_cons_of_mem _ hq)).2.2.2 i hi
                        rw [hh] at this
                        exact (ac.off q (List.mem_cons_of_mem _ hq)).2.1 this
                      have hpf : p ∉ fs.flatten := (List.nodup_cons.mp ac.nd).1
                      refine ⟨F6, fps6, _, acc ++ [u], yc ++ [y], fs ++ [fpu], rs, sc.trans hs, r8, ⟨upd_same, fun q hq => ?_, ?_, ?_⟩, e7, by rw [List.append_assoc]; exact ey⟩
                      · rcases List.mem_cons.mp hq with z | hq
                        · subst z
                          exact ⟨pF6, by rw [upd_same]; simp, p06, pq6⟩
                        · rw [List.flatten_append, List.mem_append] at hq
                          rcases hq with hq | hq
                          · obtain ⟨b1, b2, b3, b4⟩ := a6.off q (List.mem_cons_of_mem _ hq)
                            have hne : q ≠ p := fun z => hpf (z ▸ hq)
                            exact ⟨b1, by rw [upd_ne hne]; exact b2, b3, b4⟩
                          · have hq : q ∈ fpu := by simpa using hq
                            obtain ⟨b1, b2, b3, b4⟩ := hfu q hq
                            have hne : q ≠ p := fun z => hpu (z ▸ hq)
                            refine ⟨b1, by rw [upd_ne hne]; exact b2, ?_, b4⟩
                            rcases from_none b3 with ⟨j, hj, hpm⟩ | h
                            · rcases (rc.off j q hj).2.2 with h | ⟨_, h⟩
                              · exact h
                              · rw [hpm] at h; cases h
                            · exact rc.live q h
                      · refine All3.snoc ?_ (a6.al.imp fun x1 y1 z1 hz1 ow1 => ow_mono (Same.refl _) ow1 fun q hq => upd_ne fun z => hpf (z ▸ List.mem_flatten.mpr ⟨z1, hz1, hq⟩))
                        exact ow_mono (Same.refl _) ow fun q hq => upd_ne fun z => hpu (z ▸ hq)
                      · rw [List.flatten_append]
                        have e9 : [fpu].flatten = fpu := by simp
                        rw [e9]
                        refine List.nodup_cons.mpr ⟨fun z => ?_, ?_⟩
                        · rcases List.mem_append.mp z with z | z
                          · exact hpf z
                          · exact hpu z
                        · exact List.nodup_append.mpr ⟨(List.nodup_cons.mp ac.nd).2, ndu, fun a ha b hb z => hfr a ha (z ▸ hb)⟩
      · cases e⟩
end
end Z
set_option Elab.async false
set_option linter.all false
set_option maxRecDepth 100000
namespace Z
open PySem L2
section
variable {K : Fg} {c : Ctx} {O : List Kd} {vs : List Nat}
end
def Lc0 (g : MG) (t : M Bool) (e : M D) (vs : List Nat) (xs : List D) (s : DS) (Q : List D → DS → Prop) : Prop := match lcl g t e vs xs s with
  | .ok ys s' => Q ys s'
  | .no => False
@[irreducible] def Lc (xs : List D) (s : DS) (g : MG) (t : M Bool) (e : M D) (vs : List Nat) (Q : List D → DS → Prop) (_ : W5 g t e vs Q := Unit.unit) : Prop := Lc0 g t e vs xs s Q
theorem ev_lc_0 {mi : M (List D)} {g : MG} {t : M Bool} {e : M D} {vs : List Nat} {s : DS} {Q : D → DS → Prop} : Ev0 (mLc mi g t e vs) s Q = Ev0 mi s fun xs s1 => Lc0 g t e vs xs (wipeD s1 vs) fun ys s2 => fits ys.length = true ∧ Q (.list ys) (back s1 s2 vs) := by
  unfold Ev0 mLc Lc0
  cases mi s with
  | no => rfl
  | ok xs s1 =>
    dsimp only
    cases lcl g t e vs xs (wipeD s1 vs) with
    | no => rfl
    | ok ys s2 =>
      dsimp only
      cases fits ys.length <;> simp
theorem ev_lc {mi : M (List D)} {g : MG} {t : M Bool} {e : M D} {vs : List Nat} {s : DS} {Q : D → DS → Prop} : Ev (mLc mi g t e vs) s Q = Ev mi s fun xs s1 => Lc xs (wipeD s1 vs) g t e vs fun ys s2 => fits ys.length = true ∧ Q (.list ys) (back s1 s2 vs) := by with_unfolding_all exact ev_lc_0
theorem ev_yes {s : DS} {Q : Bool → DS → Prop} : Ev mYes s Q = Q true s := by with_unfolding_all exact nr rfl
theorem lc_by {xs : List D} {s : DS} {g : MG} {t : M Bool} {e : M D} {vs : List Nat} {Q : List D → DS → Prop} (I : Nat → List D → DS → Prop) (h0 : I 0 [] s)
    (ht : ∀ i d ys s1, xs[i]? = some d → I i ys s1 → So (g d s1) fun s2 => Ev t s2 fun b s3 => Br b (Ev e s3 fun y s4 => I (i + 1) (ys ++ [y]) (wipeD s4 vs)) (I (i + 1) ys (wipeD s3 vs))) (he : ∀ ys s1, I xs.length ys s1 → Q ys s1) : Lc xs s g t e vs Q := by
  have key : ∀ (n i : Nat) (ys : List D) (s1 : DS), n + i = xs.length → I i ys s1 → Lc0 g t e vs (xs.drop i) s1 fun zs s2 => Q (ys ++ zs) s2 := fun n => by
    induction n with
    | zero =>
      intro i ys s1 hn hI
      have : i = xs.length := by omega
      subst this
      rw [List.drop_of_length_le (Nat.le_refl _)]
      unfold Lc0 lcl
      dsimp only
      rw [List.append_nil]
      exact he ys s1 hI
    | succ n ih =>
      intro i ys s1 hn hI
      have hlt : i < xs.length := by omega
      rw [List.drop_eq_getElem_cons hlt]
      have h := ht i xs[i] ys s1 (List.getElem?_eq_getElem hlt) hI
      have h : So0 (g xs[i] s1) fun s2 => Ev0 t s2 fun b s3 => Br0 b (Ev0 e s3 fun y s4 => I (i + 1) (ys ++ [y]) (wipeD s4 vs)) (I (i + 1) ys (wipeD s3 vs)) := by with_unfolding_all exact h
      unfold Lc0 lcl
      unfold So0 at h
      cases eg : g xs[i] s1 with
      | none => rw [eg] at h; exact h
      | some s2 =>
        rw [eg] at h
        dsimp only at h ⊢
        unfold Ev0 at h
        cases et : t s2 with
        | no => rw [et] at h; exact h
        | ok b s3 =>
          rw [et] at h
          cases b with
          | false => exact ih (i + 1) ys (wipeD s3 vs) (by omega) (by simpa [Br0] using h)
          | true =>
            dsimp only at h ⊢
            cases ee : e s3 with
            | no => rw [ee] at h; simp [Br0] at h
            | ok y s4 =>
              rw [ee] at h
              have h : I (i + 1) (ys ++ [y]) (wipeD s4 vs) := by simpa [Br0] using h
              have := ih (i + 1) (ys ++ [y]) (wipeD s4 vs) (by omega) h
              unfold Lc0 at this
              dsimp only
              cases el : lcl g t e vs (xs.drop (i + 1)) (wipeD s4 vs) with
              | no => rw [el] at this; exact this
              | ok zs s5 =>
                rw [el] at this
                dsimp only at this ⊢
                rw [List.append_assoc] at this
                exact this
  have := key xs.length 0 [] s (by omega) h0
  with_unfolding_all exact this
theorem lc_map {xs : List D} {s : DS} {g : MG} {t : M Bool} {e : M D} {vs : List Nat} {Q : List D → DS → Prop} (f : D → Option D)
    (ht : ∀ d ∈ xs, So (g d s) fun s2 => Ev t s2 fun b s3 => Br b (Ev e s3 fun y s4 => f d = some y ∧ wipeD s4 vs = s) (f d = none ∧ wipeD s3 vs = s)) (he : Q (xs.filterMap f) s) : Lc xs s g t e vs Q := by
  refine lc_by (fun i ys s1 => s1 = s ∧ ys = (xs.take i).filterMap f) ⟨rfl, by simp⟩ (fun i d ys s1 hd hI => ?_) fun ys s1 hI => ?_
  · obtain ⟨rfl, rfl⟩ := hI
    have hx : xs.take (i + 1) = xs.take i ++ [d] := by rw [List.take_add_one, hd]; rfl
    have h := ht d (List.mem_of_getElem? hd)
    have conv : ∀ {o : Option DS} {P P' : DS → Prop}, So o P → (∀ a, P a → P' a) → So o P' := fun {o P P'} h f => by
      have h : So0 o P := by with_unfolding_all exact h
      have : So0 o P' := by
        unfold So0 at h ⊢
        cases o with
        | none => exact h
        | some a => exact f a h
      with_unfolding_all exact this
    refine conv h fun s2 h => ev_mono h fun b s3 h => br_i (fun hb => ?_) fun hb => ?_
    · subst hb
      rw [br_t] at h
      refine ev_mono h fun y s4 h => ⟨h.2, ?_⟩
      rw [hx, List.filterMap_append]
      simp [h.1]
    · subst hb
      rw [br_f] at h
      refine ⟨h.2, ?_⟩
      rw [hx, List.filterMap_append]
      simp [h.1]
  · obtain ⟨rfl, rfl⟩ := hI
    rw [List.take_length]
    exact he
theorem wpD0 {s : DS} : wipeD s [] = s := nr rfl
theorem wpDC {s : DS} {v : Nat} {vs : List Nat} : wipeD s (v :: vs) = (wipeD s vs).set v none := nr rfl
theorem bk0 {s1 s2 : DS} : back s1 s2 [] = s2 := nr rfl
def oat (s : DS) (v : Nat) : Option D := s[v]?.getD none
theorem bkC {s1 s2 : DS} {v : Nat} {vs : List Nat} : back s1 s2 (v :: vs) = (back s1 s2 vs).set v (oat s1 v) := nr rfl
theorem oat0 {x : Option D} {s : DS} : oat (x :: s) 0 = x := nr rfl
theorem oatS {x : Option D} {s : DS} {n : Nat} : oat (x :: s) (n + 1) = oat s n := nr rfl
section
variable {X : Cx} {K : Fg} {O : List Kd} {k : Kd} {mt : M Bool} {me : M D}
theorem pe_lcD {elt tg iter : Expr} {ifs : List Expr} {scope : Scope} {own : List (Str × Nat)} {pos : Pos} {wi : TI} {g : TG} {tt : TT} {te : TE} (_ : ∀ c : Ctx, DT K c O tt mt) (_ : ∀ c : Ctx, DO K c O k te me) (hc : X.calm = true) (hN : X.N.Nodup) (hi : PI X tg iter wi) (ok : BlkOk X.N X.env.scope scope own)
    (hg : ∀ (s : Shared) (H : Hp) (C : Addr) (cl : List (Str × Addr)) (fp : List Addr), PG (X.blk s H scope (compEnvC scope cl C X.env) fp) tg g) (ht : ∀ (s : Shared) (H : Hp) (C : Addr) (cl : List (Str × Addr)) (fp : List Addr), PTs (X.blk s H scope (compEnvC scope cl C X.env) fp) ifs tt)
    (he : ∀ (s : Shared) (H : Hp) (C : Addr) (cl : List (Str × Addr)) (fp : List Addr), PE (X.blk s H scope (compEnvC scope cl C X.env) fp) elt te) (hs : ∀ x, foldedSetIterable iter X.env x = pure x := by intro _; rfl) :
    PE X (.ListComp elt [⟨tg, iter, ifs, 0⟩] scope pos) (tLc wi g tt te (own.map (·.2))) := pe_lc hc hN hi ok hg ht he hs
theorem ps_setLcD {i : Nat} {y : Str} {py : Pos} {elt tg iter : Expr} {ifs : List Expr} {scope : Scope} {own : List (Str × Nat)} {pos spos : Pos} {wi : TI} {g : TG} {tt : TT} {te : TE} (_ : ∀ c : Ctx, DT K c O tt mt) (_ : ∀ c : Ctx, DO K c O k te me) (hc : X.calm = true) (hN : X.N.Nodup) (hy : X.N[i]? = some y) (hyl : X.env.scope.names.lookup y = some .local)
    (hsw : swapsWith (.ListComp elt [⟨tg, iter, ifs, 0⟩] scope pos) (some (.Name y py)) spos.line X.env = pure true) (hi : PI X tg iter wi) (ok : BlkOk X.N X.env.scope scope own)
    (hg : ∀ (s : Shared) (H : Hp) (C : Addr) (cl : List (Str × Addr)) (fp : List Addr), PG (X.blk s H scope (compEnvC scope cl C X.env) fp) tg g) (ht : ∀ (s : Shared) (H : Hp) (C : Addr) (cl : List (Str × Addr)) (fp : List Addr), PTs (X.blk s H scope (compEnvC scope cl C X.env) fp) ifs tt)
    (he : ∀ (s : Shared) (H : Hp) (C : Addr) (cl : List (Str × Addr)) (fp : List Addr), PE (X.blk s H scope (compEnvC scope cl C X.env) fp) elt te) (hs : ∀ x, foldedSetIterable iter X.env x = pure x := by intro _; rfl) :
    PS X (.Assign [.Name y py] (.ListComp elt [⟨tg, iter, ifs, 0⟩] scope pos) spos) (tAsg (tLc wi g tt te (own.map (·.2))) (gName i)) := ps_setLc hc hN hy hyl hsw hi ok hg ht he hs
end
end Z
set_option Elab.async false
set_option linter.all false
set_option maxRecDepth 100000
namespace Z
open PySem L2
def sExt (i : Nat) (m : M D) : MS := fun s => match s[i]? with
  | some (some (.list _)) => match m s with
    | .ok (.list ys) s' => match s'[i]? with
      | some (some (.list xs)) => if fits (xs.length + ys.length) then .nx (s'.set i (some (.list (xs ++ ys)))) else .no
      | _ => .no
    | _ => .no
  | _ => .no
section
variable {K : Fg} {c : Ctx} {O Ob : List Kd} {te : TE} {m : M D} {b1 : M BR}
def revD : D → Option D
  | .list xs => some (.list xs.reverse)
  | _ => none
def bitsD : D → Option D
  | .int i => some (.int (Builtin.Int.intBits i : Nat))
  | _ => none
def enumD (xs : List D) : List D := xs.mapIdx fun i x => .tuple [.int i, x]
def mEnum (ml : M (List D)) : M (List D) := bnd ml fun ds => opt (match ds with | [.list xs] => some (enumD xs) | _ => none)
end
section
variable {s : DS} {Nx : DS → Prop} {Rt : D → DS → Prop} {Bk Ct : DS → Prop} {Ex : Xc → DS → Prop}
theorem run_ext_0 {i : Nat} {m : M D} : Run0 (sExt i m) s Nx Rt Bk Ct Ex = So0 (look s i) fun d0 => So0 (lof d0) fun _ => Ev0 m s fun d s' => So0 (lof d) fun ys => So0 (look s' i) fun d1 => So0 (lof d1) fun xs => fits (xs.length + ys.length) = true ∧ Nx (s'.set i (some (.list (xs ++ ys)))) := by
  unfold look
  dsimp only [Run0, sExt]
  cases h : s[i]? with
  | none => rfl
  | some o =>
    cases o with
    | none => rfl
    | some d0 =>
      cases d0 <;> try rfl
      unfold Ev0
      cases m s with
      | no => rfl
      | ok d s' =>
        cases d <;> try rfl
        dsimp only [So0, lof]
        cases h' : s'[i]? with
        | none => rfl
        | some o =>
          cases o with
          | none => rfl
          | some d1 =>
            cases d1 <;> try rfl
            rename_i ys l xs
            dsimp only
            cases fits (xs.length + l.length) <;> simp
theorem run_ext {i : Nat} {m : M D} : Run (sExt i m) s Nx Rt Bk Ct Ex = So (look s i) fun d0 => So (lof d0) fun _ => Ev m s fun d s' => So (lof d) fun ys => So (look s' i) fun d1 => So (lof d1) fun xs => fits (xs.length + ys.length) = true ∧ Nx (s'.set i (some (.list (xs ++ ys)))) := by with_unfolding_all exact run_ext_0
theorem so_rev {l : List D} {Q : D → Prop} : So (revD (.list l)) Q = Q (.list l.reverse) := by with_unfolding_all exact nr rfl
theorem so_bits {i : Int} {Q : D → Prop} : So (bitsD (.int i)) Q = Q (.int (Builtin.Int.intBits i : Nat)) := by with_unfolding_all exact nr rfl
def en1 : List D → Option (List D)
  | [.list xs] => some (enumD xs)
  | _ => none
theorem ev_enum {m : M (List D)} {Q : List D → DS → Prop} : Ev (mEnum m) s Q = Ev m s fun d s' => So (en1 d) fun xs => Q xs s' := by
  unfold mEnum
  rw [ev_bnd]
  have e : ∀ (d : List D) (s' : DS), Ev (opt (match d with | [.list xs] => some (enumD xs) | _ => none)) s' Q = So (en1 d) fun xs => Q xs s' := fun d s' => by
    rw [ev_opt]
    unfold en1
    rfl
  have e2 : (fun d s' => Ev (opt (match d with | [.list xs] => some (enumD xs) | _ => none)) s' Q) = fun d s' => So (en1 d) fun xs => Q xs s' := funext fun d => funext fun s' => e d s'
  rw [e2]
theorem so_en {l : List D} {Q : List D → Prop} : So (en1 [.list l]) Q = Q (enumD l) := by with_unfolding_all exact nr rfl
end
end Z
namespace Z
open PySem L2
def catD : D → D → Option D
  | .list xs, .list ys => if fits (xs.length + ys.length) then some (.list (xs ++ ys)) else none
  | _, _ => none
theorem so_catD {l k : List D} {Q : D → Prop} : So (catD (.list l) (.list k)) Q = (fits (l.length + k.length) = true ∧ Q (.list (l ++ k))) := by
  show So (if fits (l.length + k.length) then some (PyData.list (l ++ k)) else none) Q = _
  rw [so_if, so_some]
end Z
set_option Elab.async false
set_option linter.all false
set_option maxRecDepth 100000
namespace Z
open PySem L2
def shp : Nat → D → Bool
  | _, .none => true
  | _, .bool _ => true
  | _, .int _ => true
  | _, .str x => PyData.canLay0 (.str x)
  | n + 1, .list xs => xs.all (shp n)
  | n + 1, .tuple xs => xs.all (shp n)
  | _, _ => false
theorem shp_lay : ∀ (n : Nat) (d : D), shp n d = true → PyData.canLay0 d = true ∧ PyData.depth d ≤ n := by
  intro n
  induction n with
  | zero =>
    intro d h
    cases d with
    | none => exact ⟨rfl, by simp [PyData.depth]⟩
    | bool b => exact ⟨rfl, by simp [PyData.depth]⟩
    | int b => exact ⟨rfl, by simp [PyData.depth]⟩
    | str b => exact ⟨by simpa [shp] using h, by simp [PyData.depth]⟩
    | list l => simp [shp] at h
    | tuple l => simp [shp] at h
    | dict l => simp [shp] at h
  | succ n ih =>
    have all : ∀ l : List D, l.all (shp n) = true → PyData.canLayAll0 l = true ∧ PyData.depthAll l ≤ n := fun l => by
      induction l with
      | nil => intro _; simp [PyData.canLayAll0, PyData.depthAll]
      | cons x l ihl =>
        intro h
        rw [List.all_cons, Bool.and_eq_true] at h
        obtain ⟨a, b⟩ := ih x h.1
        obtain ⟨c, e⟩ := ihl h.2
        simp [PyData.canLayAll0, PyData.depthAll, a, c]
        omega
    intro d h
    cases d with
    | none => exact ⟨rfl, by simp [PyData.depth]⟩
    | bool b => exact ⟨rfl, by simp [PyData.depth]⟩
    | int b => exact ⟨rfl, by simp [PyData.depth]⟩
    | str b => exact ⟨by simpa [shp] using h, by simp [PyData.depth]⟩
    | list l =>
      obtain ⟨a, b⟩ := all l (by simpa [shp] using h)
      exact ⟨by simpa [PyData.canLay0] using a, by simp [PyData.depth]; omega⟩
    | tuple l =>
      obtain ⟨a, b⟩ := all l (by simpa [shp] using h)
      exact ⟨by simpa [PyData.canLay0] using a, by simp [PyData.depth]; omega⟩
    | dict l => simp [shp] at h
theorem shaped_of {n : Nat} {d : D} (h : shp n d = true) (hn : n ≤ 63 := by decide) : SeqAt.shaped d = true := by
  obtain ⟨a, b⟩ := shp_lay n d h
  unfold SeqAt.shaped
  rw [a]
  simp
  omega
theorem eqv_same : ∀ (n : Nat) (d : D), shp n d = true → PyData.eqv d d = true := by
  intro n
  induction n with
  | zero =>
    intro d h
    cases d with
    | none => simp [PyData.eqv]
    | bool b => simp [PyData.eqv]
    | int b => simp [PyData.eqv]
    | str b => simp [PyData.eqv]
    | list l => simp [shp] at h
    | tuple l => simp [shp] at h
    | dict l => simp [shp] at h
  | succ n ih =>
    have all : ∀ l : List D, l.all (shp n) = true → PyData.eqvAll l l = true := fun l => by
      induction l with
      | nil => intro _; simp [PyData.eqvAll]
      | cons x l ihl =>
        intro h
        rw [List.all_cons, Bool.and_eq_true] at h
        simp [PyData.eqvAll, ih x h.1, ihl h.2]
    intro d h
    cases d with
    | none => simp [PyData.eqv]
    | bool b => simp [PyData.eqv]
    | int b => simp [PyData.eqv]
    | str b => simp [PyData.eqv]
    | list l => simpa [PyData.eqv] using all l (by simpa [shp] using h)
    | tuple l => simpa [PyData.eqv] using all l (by simpa [shp] using h)
    | dict l => simp [shp] at h
section
variable {x y : D} {Q : D → Prop}
theorem eqB_of (h1 : SeqAt.shaped x = true) (h2 : SeqAt.shaped y = true) : eqB x y = some (PyData.eqv x y) := by
  unfold eqB
  split
  · rw [PyData.eqv]
    exact congrArg some (Bool.beq_eq_decide_eq _ _).symm
  · rw [h1, h2]
    rfl
theorem so_ned (h1 : SeqAt.shaped x = true) (h2 : SeqAt.shaped y = true) (q : Q (.bool (!PyData.eqv x y))) : So (neD x y) Q := by
  unfold neD
  rw [eqB_of h1 h2, Option.map_some, so_some]
  exact q
theorem so_ne_s {n : Nat} (h : shp n x = true) (q : Q (.bool false)) (hn : n ≤ 63 := by decide) : So (neD x x) Q := so_ned (shaped_of h hn) (shaped_of h hn) (by rw [eqv_same n x h]; exact q)
theorem so_neNil {n : Nat} {l : List D} (h : shp n (.list l) = true) (q : Q (.bool (!l.isEmpty))) (hn : n ≤ 63 := by decide) : So (neD (.list l) (.list [])) Q := so_ned (shaped_of h hn) (shaped_of (n := 1) rfl) (by
  cases l with
  | nil => simpa [PyData.eqv, PyData.eqvAll] using q
  | cons a l => simpa [PyData.eqv, PyData.eqvAll] using q)
end
theorem br_cut (P : DS → Prop) {x : Bool} {A B : MS} {s : DS} {Nx : DS → Prop} {Rt : D → DS → Prop} {Bk Ct : DS → Prop} {Ex : Xc → DS → Prop} (hA : x = true → Run A s P Rt Bk Ct Ex) (hB : x = false → Run B s P Rt Bk Ct Ex) (hN : ∀ s', P s' → Nx s') : Br x (Run A s Nx Rt Bk Ct Ex) (Run B s Nx Rt Bk Ct Ex) :=
  br_i (fun h => run_mono (hA h) hN (fun _ _ z => z) (fun _ z => z) (fun _ z => z) fun _ _ z => z) fun h => run_mono (hB h) hN (fun _ _ z => z) (fun _ z => z) (fun _ z => z) fun _ _ z => z
theorem br_ev {x : Bool} {a b : M D} {s : DS} {Q : D → DS → Prop} (v : D) (ha : x = true → Ev a s fun d s' => d = v ∧ s' = s) (hb : x = false → Ev b s fun d s' => d = v ∧ s' = s) (q : Q v s) : Br x (Ev a s Q) (Ev b s Q) :=
  br_i (fun h => ev_mono (ha h) fun d s' e => by rw [e.1, e.2]; exact q) fun h => ev_mono (hb h) fun d s' e => by rw [e.1, e.2]; exact q
end Z
set_option Elab.async false
set_option linter.all false
set_option maxRecDepth 100000
namespace Z
open PySem L2
def isBl : D → D → Option D
  | .bool a, .bool b => some (.bool (decide (a = b)))
  | _, _ => none
def notBl : D → D → Option D
  | .bool a, .bool b => some (.bool (!decide (a = b)))
  | _, _ => none
theorem so_isBl {a b : Bool} {Q : D → Prop} : So (isBl (.bool a) (.bool b)) Q = Q (.bool (decide (a = b))) := by with_unfolding_all exact nr rfl
theorem so_notBl {a b : Bool} {Q : D → Prop} : So (notBl (.bool a) (.bool b)) Q = Q (.bool (!decide (a = b))) := by with_unfolding_all exact nr rfl
end Z
set_option Elab.async false
set_option linter.all false
set_option maxRecDepth 100000
namespace Z
open PySem L2
section
variable {K : Fg} {c : Ctx} {O : List Kd} {F H : Hp} {σ : St} {fps : Nat → List Addr} {ds : DS}
theorem Rel.aside (r : Rel K c O F H σ fps ds) (i : Nat) : Rel K c O F H σ (fun j => if j = i then [] else fps j) (ds.set i none) := by
  have sub : ∀ j q, q ∈ (if j = i then [] else fps j) → q ∈ fps j := fun j q h => by
    by_cases z : j = i
    · rw [if_pos z] at h; exact absurd h (by simp)
    · rw [if_neg z] at h; exact h
  refine ⟨r.sub, r.base, r.keep, r.live, r.new, fun j d e => ?_, fun j q hq => r.off j q (sub j q hq), fun j => ?_, fun j k hjk q hq hq' => r.dj j k hjk q (sub j q hq) (sub k q hq'), r.par, by rw [List.length_set]; exact r.len⟩
  · by_cases z : j = i
    · subst z
      by_cases hl : j < ds.length
      · rw [List.getElem?_set_self hl] at e; cases e
      · rw [List.getElem?_eq_none (by rw [List.length_set]; omega)] at e; cases e
    · rw [List.getElem?_set_ne (Ne.symm z)] at e
      simp only [if_neg z]
      exact r.slots j d e
  · by_cases z : j = i
    · simp only [if_pos z]; simp
    · simp only [if_neg z]; exact r.nd j
theorem Rel.again (r : Rel K c O F H σ fps ds) {i : Nat} {v : V} {d : D} {fp : List Addr} (hv : σ[i]? = some (some v)) (ow : Ow K F H (O.getD i .sh) v d fp)
    (hf : ∀ q ∈ fp, F q = none ∧ H q ≠ none ∧ (c.H0 q = none ∨ (c.ow i q ∧ isPm O[i]? = true)) ∧ ∀ j, j ≠ i → q ∉ fps j) (nd : fp.Nodup) : Rel K c O F H σ (fun j => if j = i then fp else fps j) (ds.set i (some d)) := by
  refine ⟨r.sub, r.base, r.keep, r.live, r.new, fun j e hj => ?_, fun j q hq => ?_, fun j => ?_, fun j k hjk q hq hq' => ?_, r.par, by rw [List.length_set]; exact r.len⟩
  · by_cases z : j = i
    · subst z
      by_cases hl : j < ds.length
      · rw [List.getElem?_set_self hl] at hj
        cases hj
        simp only [if_pos]
        exact ⟨v, hv, ow⟩
      · rw [List.getElem?_eq_none (by rw [List.length_set]; omega)] at hj; cases hj
    · rw [List.getElem?_set_ne (Ne.symm z)] at hj
      simp only [if_neg z]
      exact r.slots j e hj
  · by_cases z : j = i
    · simp only [if_pos z] at hq
      obtain ⟨a, b, cc, _⟩ := hf q hq
      exact ⟨a, b, by rw [z]; exact cc⟩
    · simp only [if_neg z] at hq
      exact r.off j q hq
  · by_cases z : j = i
    · simp only [if_pos z]; exact nd
    · simp only [if_neg z]; exact r.nd j
  · by_cases z : j = i
    · by_cases z' : k = i
      · exact hjk (z.trans z'.symm)
      · simp only [if_pos z] at hq
        simp only [if_neg z'] at hq'
        exact (hf q hq).2.2.2 k z' hq'
    · simp only [if_neg z] at hq
      by_cases z' : k = i
      · simp only [if_pos z'] at hq'
        exact (hf q hq').2.2.2 j z hq
      · simp only [if_neg z'] at hq'
        exact r.dj j k hjk q hq hq'
end
end Z
set_option Elab.async false
set_option linter.all false
set_option maxRecDepth 100000
namespace Z
open PySem L2
inductive Sel where
  | ix (n : Nat)
  | fd (f : Str)
deriving DecidableEq
def fldD (f : Str) : List (D × D) → Option D
  | [] => none
  | (.str g, d) :: r => if f = g then some d else fldD f r
  | _ :: r => fldD f r
def putD (f : Str) (x : D) : List (D × D) → List (D × D)
  | [] => []
  | (.str g, d) :: r => if f = g then (.str g, x) :: r else (.str g, d) :: putD f x r
  | e :: r => e :: putD f x r
def fkOf : Kd → Str → Kd
  | .of f k r, g => if g = f then k else fkOf r g
  | _, _ => .sh
def isSt : Kd → Bool
  | .oe _ => true
  | .of _ _ _ => true
  | _ => false
def getS : Sel → D → Option D
  | .ix n, .list ds => ds[n]?
  | .ix n, .tuple ds => ds[n]?
  | .fd f, .dict ds => fldD f ds
  | _, _ => none
def setS : Sel → D → D → Option D
  | .ix n, .list ds, x => some (.list (ds.set n x))
  | .ix n, .tuple ds, x => some (.tuple (ds.set n x))
  | .fd f, .dict ds, x => some (.dict (putD f x ds))
  | _, _, _ => none
def getP : List Sel → D → Option D
  | [], d => some d
  | s :: π, d => match getS s d with
    | some d' => getP π d'
    | none => none
def setP : List Sel → D → D → Option D
  | [], _, x => some x
  | s :: π, d, x => match getS s d with
    | some d' => match setP π d' x with
      | some y => setS s d y
      | none => none
    | none => none
def stepK : Sel → Kd → Option Kd
  | .ix _, .ls k => some k
  | .ix 0, .tc k _ => some k
  | .ix (n + 1), .tc _ r => stepK (.ix n) r
  | s, .op k => stepK s k
  | .fd f, .oe cs => some (fkOf (.oe cs) f)
  | .fd f, .of g k r => some (fkOf (.of g k r) f)
  | _, _ => none
def kdP : List Sel → Kd → Option Kd
  | [], k => some k
  | s :: π, k => match stepK s k with
    | some k' => kdP π k'
    | none => none
def unpm : Kd → Kd
  | .pm k => k
  | k => k
theorem ow_unpm {K : Fg} {F H : Hp} {k : Kd} {v : V} {d : D} {fp : List Addr} : Ow K F H (unpm k) v d fp = Ow K F H k v d fp := by
  cases k <;> rfl
def VS (H : Hp) : V → Sel → V → Prop
  | v, .ix n, w => ∃ p xs, v = .ref p ∧ (H p = some (.lst xs) ∨ H p = some (.tup xs)) ∧ xs[n]? = some w
  | v, .fd f, w => ∃ p fs, v = .ref p ∧ ((∃ C dx, H p = some (.ins C dx fs)) ∨ H p = some (recK fs)) ∧ fs.lookup f = some w
def VP (H : Hp) : V → List Sel → V → Prop
  | v, [], w => v = w
  | v, s :: π, w => ∃ u, VS H v s u ∧ VP H u π w
theorem All3.split {α β γ : Type} {P : α → β → γ → Prop} : ∀ {xs ys zs} {n : Nat} {y : β}, All3 P xs ys zs → ys[n]? = some y →
    ∃ xa x xb ya yb za z zb, xs = xa ++ x :: xb ∧ ys = ya ++ y :: yb ∧ zs = za ++ z :: zb ∧ xa.length = n ∧ ya.length = n ∧ All3 P xa ya za ∧ P x y z ∧ All3 P xb yb zb
  | _, _, _, _, _, .nil, e => by simp at e
  | _, _, _, 0, y, .cons (a := a) (as := as) (b := b) (bs := bs) (c := c) (cs := cs) h t, e => by
    simp at e
    subst e
    exact ⟨[], a, as, [], bs, [], c, cs, rfl, rfl, rfl, rfl, rfl, .nil, h, t⟩
  | _, _, _, n + 1, y, .cons (a := a) (b := b) (c := c) h t, e => by
    obtain ⟨xa, x, xb, ya, yb, za, z, zb, rfl, rfl, rfl, l1, l2, h1, h2, h3⟩ := All3.split (n := n) (y := y) t (by simpa using e)
    exact ⟨a :: xa, x, xb, b :: ya, yb, c :: za, z, zb, rfl, rfl, rfl, by simp [l1], by simp [l2], .cons h h1, h2, h3⟩
theorem All3.append {α β γ : Type} {P : α → β → γ → Prop} : ∀ {xs ys zs xs' ys' zs'}, All3 P xs ys zs → All3 P xs' ys' zs' → All3 P (xs ++ xs') (ys ++ ys') (zs ++ zs')
  | _, _, _, _, _, _, .nil, h => h
  | _, _, _, _, _, _, .cons p t, h => .cons p (t.append h)
theorem FlO.split {R : Str → OwR} : ∀ {vs : List (Str × V)} {ds : List (D × D)} {fs : List (List Addr)} {f : Str} {d : D}, FlO R vs ds fs → fldD f ds = some d →
    ∃ va v vb da db fa fp fb, vs = va ++ (f, v) :: vb ∧ ds = da ++ (.str f, d) :: db ∧ fs = fa ++ fp :: fb ∧ FlO R va da fa ∧ R f v d fp ∧ FlO R vb db fb ∧ (∀ x ∈ va, x.1 ≠ f)
  | _, _, _, _, _, .nil, e => by simp [fldD] at e
  | _, _, _, f, d, .cons (f := g) (v := v) (d := d0) (fp := fp) (vs := vs) (ds := ds) (fs := fs) h t, e => by
    unfold fldD at e
    by_cases z : f = g
    · subst z
      rw [if_pos rfl] at e
      cases e
      exact ⟨[], v, vs, [], ds, [], fp, fs, rfl, rfl, rfl, .nil, h, t, fun x hx => absurd hx (by simp)⟩
    · rw [if_neg z] at e
      obtain ⟨va, v', vb, da, db, fa, fp', fb, rfl, rfl, rfl, h1, h2, h3, h4⟩ := FlO.split (f := f) (d := d) t e
      refine ⟨(g, v) :: va, v', vb, (.str g, d0) :: da, db, fp :: fa, fp', fb, rfl, rfl, rfl, .cons h h1, h2, h3, fun x hx => ?_⟩
      rcases List.mem_cons.mp hx with rfl | hx
      · exact fun y => z y.symm
      · exact h4 x hx
theorem FlO.append {R : Str → OwR} : ∀ {vs : List (Str × V)} {ds : List (D × D)} {fs : List (List Addr)} {vs' ds' fs'}, FlO R vs ds fs → FlO R vs' ds' fs' → FlO R (vs ++ vs') (ds ++ ds') (fs ++ fs')
  | _, _, _, _, _, _, .nil, h => h
  | _, _, _, _, _, _, .cons p t, h => .cons p (t.append h)
theorem lookup_split {va vb : List (Str × V)} {f : Str} {v : V} (h : ∀ x ∈ va, x.1 ≠ f) : (va ++ (f, v) :: vb).lookup f = some v := by
  induction va with
  | nil => simp
  | cons a va ih =>
    obtain ⟨g, w⟩ := a
    have hg : g ≠ f := h (g, w) (by simp)
    rw [List.cons_append, List.lookup_cons]
    have : (f == g) = false := by simpa using fun z => hg z.symm
    rw [this]
    exact ih fun x hx => h x (by simp [hx])
theorem putD_split {R : Str → OwR} {va : List (Str × V)} {da db : List (D × D)} {fa : List (List Addr)} {f : Str} {d x : D} (h : FlO R va da fa) (hn : ∀ y ∈ va, y.1 ≠ f) : putD f x (da ++ (.str f, d) :: db) = da ++ (.str f, x) :: db := by
  induction h with
  | nil => simp [putD]
  | cons h t ih =>
    rename_i g v d0 fp vs ds fs
    have hg : g ≠ f := hn (g, v) (by simp)
    rw [List.cons_append]
    show (if f = g then _ else _) = _
    rw [if_neg fun z => hg z.symm]
    show (PyData.str g, d0) :: putD f x (ds ++ (PyData.str f, d) :: db) = _
    rw [ih fun y hy => hn y (by simp [hy])]
    rfl
theorem ob_of {K : Fg} {F H : Hp} : ∀ {k : Kd}, isSt k = true → (∀ f, (Ow2 K F H k).f f = (Ow2 K F H (fkOf k f)).a) ∧ (Ow2 K F H k).a = ObO H (Ow2 K F H k).f (Ow2 K F H k).c := by
  have key : ∀ k : Kd, ∀ f, (Ow2 K F H k).f f = (Ow2 K F H (fkOf k f)).a := fun k => by
    induction k with
    | of g k r _ ih =>
      intro f
      show (if f = g then (Ow2 K F H k).a else (Ow2 K F H r).f f) = _
      unfold fkOf
      by_cases z : f = g
      · rw [if_pos z, if_pos z]
      · rw [if_neg z, if_neg z]; exact ih f
    | _ => intro f; rfl
  intro k h
  refine ⟨key k, ?_⟩
  cases k with
  | oe cs => rfl
  | of g k r => rfl
  | _ => cases h
theorem nd_swap {R A fn B fp2 : List Addr} (nd : (R ++ (A ++ (fn ++ B))).Nodup) (h2 : fp2.Nodup) (dj : ∀ q ∈ fp2, q ∈ R ++ (A ++ (fn ++ B)) → q ∈ fn) :
    (R ++ (A ++ (fp2 ++ B))).Nodup ∧ ∀ q ∈ R ++ (A ++ (fp2 ++ B)), q ∈ fp2 ∨ (q ∈ R ++ (A ++ (fn ++ B)) ∧ q ∉ fn) := by
  simp only [List.nodup_append, List.mem_append] at nd ⊢
  obtain ⟨nR, ⟨nA, ⟨nn, nB, dnB⟩, dA⟩, dR⟩ := nd
  simp only [List.mem_append] at dj
  refine ⟨⟨nR, ⟨nA, ⟨h2, nB, fun a ha b hb e => ?_⟩, fun a ha b hb e => ?_⟩, fun a ha b hb e => ?_⟩, fun q hq => ?_⟩
  · subst e; exact dnB a (dj a ha (.inr (.inr (.inr hb)))) a hb rfl
  · subst e
    rcases hb with hb | hb
    · exact dA a ha a (.inl (dj a hb (.inr (.inl ha)))) rfl
    · exact dA a ha a (.inr hb) rfl
  · subst e
    rcases hb with hb | hb | hb
    · exact dR a ha a (.inl hb) rfl
    · exact dR a ha a (.inr (.inl (dj a hb (.inl ha)))) rfl
    · exact dR a ha a (.inr (.inr hb)) rfl
  · rcases hq with hq | hq | hq | hq
    · exact .inr ⟨.inl hq, fun z => dR q hq q (.inr (.inl z)) rfl⟩
    · exact .inr ⟨.inr (.inl hq), fun z => dA q hq q (.inl z) rfl⟩
    · exact .inl hq
    · exact .inr ⟨.inr (.inr (.inr hq)), fun z => dnB q z q hq rfl⟩
def Wand (K : Fg) (F H : Hp) (k k' : Kd) (v v' : V) (fp fp' : List Addr) (put : D → Option D) : Prop := ∀ F2 H2 d2 fp2, Same F F2 → (∀ q ∈ fp, q ∉ fp' → H2 q = H q) → Ow K F2 H2 k' v' d2 fp2 → (∀ q ∈ fp2, q ∈ fp → q ∈ fp') → fp2.Nodup →
  ∃ fp3 d3, put d2 = some d3 ∧ Ow K F2 H2 k v d3 fp3 ∧ fp3.Nodup ∧ ∀ q ∈ fp3, q ∈ fp2 ∨ (q ∈ fp ∧ q ∉ fp')
theorem ob_step {K : Fg} {F H : Hp} {f : Str} {k k' : Kd} {v : V} {d d' : D} {fp : List Addr} (hob : isSt k = true) (ow : Ow K F H k v d fp) (hk : k' = fkOf k f) (hg : getS (.fd f) d = some d') (nd : fp.Nodup) :
    ∃ v' fp', VS H v (.fd f) v' ∧ (∀ H2, (∀ q ∈ fp, H2 q = H q) → VS H2 v (.fd f) v') ∧ Ow K F H k' v' d' fp' ∧ (∀ q ∈ fp', q ∈ fp) ∧ fp'.Nodup ∧ Wand K F H k k' v v' fp fp' (setS (.fd f) d) := by
  subst hk
  have oo := ob_of (K := K) (F := F) (H := H) hob
  have ow' : ObO H (Ow2 K F H k).f (Ow2 K F H k).c v d fp := by rw [← oo.2]; exact ow
  /- in one: the head's addresses, how they are kept -/
  have key : ∀ (p : Addr) (hd : List Addr) (cls : Str) (vs : List (Str × V)) (ds : List (D × D)) (gs : List (List Addr)), v = .ref p → d = .dict ((.none, .str cls) :: ds) → fp = hd ++ gs.flatten → FlO (Ow2 K F H k).f vs ds gs →
      (∀ H2 : Hp, (∀ q ∈ hd, H2 q = H q) → (∃ C dx, H2 p = some (.ins C dx vs)) ∨ H2 p = some (recK vs)) →
      (∀ (F2 H2 : Hp) ds2 gs2, Same F F2 → (∀ q ∈ hd, H2 q = H q) → FlO (Ow2 K F2 H2 k).f vs ds2 gs2 → Ow K F2 H2 k (.ref p) (.dict ((.none, .str cls) :: ds2)) (hd ++ gs2.flatten)) →
      ∃ v' fp', VS H v (.fd f) v' ∧ (∀ H2, (∀ q ∈ fp, H2 q = H q) → VS H2 v (.fd f) v') ∧ Ow K F H (fkOf k f) v' d' fp' ∧ (∀ q ∈ fp', q ∈ fp) ∧ fp'.Nodup ∧ Wand K F H k (fkOf k f) v v' fp fp' (setS (.fd f) d) := by
    intro p hd cls vs ds gs e1 e2 e3 al at_ back
    subst e1 e2 e3
    have hn : fldD f ds = some d' := hg
    obtain ⟨va, u, vb, da, db, fa, fn, fb, rfl, rfl, rfl, h1, h2, h3, h4⟩ := al.split hn
    rw [oo.1 f] at h2
    have efp : ∀ f : List Addr, hd ++ (fa ++ f :: fb).flatten = hd ++ (fa.flatten ++ (f ++ fb.flatten)) := fun f => by simp
    have inn : ∀ q, q ∈ fn → q ∈ hd ++ (fa ++ fn :: fb).flatten := fun q hq => by simp [hq]
    have nd' := nd
    rw [efp] at nd'
    have ndn : fn.Nodup := by
      simp only [List.nodup_append] at nd'
      exact nd'.2.1.2.1.1
    refine ⟨u, fn, ⟨p, _, rfl, at_ H fun _ _ => rfl, lookup_split h4⟩, fun H2 e => ⟨p, _, rfl, at_ H2 fun q hq => e q (by simp [hq]), lookup_split h4⟩, h2, inn, ndn, fun F2 H2 d2 fp2 sF e ow2 dj2 nd2 => ?_⟩
    obtain ⟨s1, s2⟩ := nd_swap nd' nd2 (fun q hq hq' => dj2 q hq (by rw [efp]; exact hq'))
    have dis : ∀ q, q ∈ hd ∨ q ∈ fa.flatten ∨ q ∈ fb.flatten → q ∉ fn := fun q hq z => by
      simp only [List.nodup_append, List.mem_append] at nd'
      obtain ⟨_, ⟨_, ⟨_, _, d3⟩, d2⟩, d1⟩ := nd'
      rcases hq with hq | hq | hq
      · exact d1 q hq q (.inr (.inl z)) rfl
      · exact d2 q hq q (.inl z) rfl
      · exact d3 q z q hq rfl
    have kp : ∀ q, q ∈ hd ∨ q ∈ fa.flatten ∨ q ∈ fb.flatten → H2 q = H q := fun q hq => e q (by
          rw [efp]
          simp only [List.mem_append]
          rcases hq with hq | hq | hq
          · exact .inl hq
          · exact .inr (.inl hq)
          · exact .inr (.inr (.inr hq))) (dis q hq)
    have oo2 := ob_of (K := K) (F := F2) (H := H2) hob
    have m2 := ow2_mono (K := K) (F := F) (F' := F2) (H := H) (H' := H2) sF k
    have al2 : FlO (Ow2 K F2 H2 k).f (va ++ (f, u) :: vb) (da ++ (.str f, d2) :: db) (fa ++ fp2 :: fb) := (h1.imp fun g w d fp hm hr => m2.2.1 g w d fp hr fun q hq => kp q (.inr (.inl (List.mem_flatten.mpr ⟨fp, hm, hq⟩)))).append
      (.cons (by rw [oo2.1 f]; exact ow2) (h3.imp fun g w d fp hm hr => m2.2.1 g w d fp hr fun q hq => kp q (.inr (.inr (List.mem_flatten.mpr ⟨fp, hm, hq⟩)))))
    refine ⟨_, _, ?_, back F2 H2 _ _ sF (fun q hq => kp q (.inl hq)) al2, by rw [efp]; exact s1, fun q hq => ?_⟩
    · show some (PyData.dict ((PyData.none, PyData.str cls) :: putD f d2 (da ++ (PyData.str f, d') :: db))) = _
      rw [putD_split h1 h4]
    · rw [efp] at hq ⊢
      exact s2 q hq
  have c2 : ∀ F2 H2, Same F F2 → (Ow2 K F H k).c = (Ow2 K F2 H2 k).c := fun F2 H2 sF => (ow2_mono (K := K) (F := F) (F' := F2) (H := H) (H' := H2) sF k).2.2.1
  rcases ow' with ⟨p, C, dx, cls, vs, ds, gs, rfl, rfl, hp, hdx, hcls, rfl, al⟩ | ⟨hcs, p, cls, vs, ds, gs, rfl, rfl, hp, rfl, al⟩
  · refine key p [p, dx] cls vs ds gs rfl rfl rfl al (fun H2 e => .inl ⟨C, dx, by rw [e p (by simp)]; exact hp⟩) fun F2 H2 ds2 gs2 sF e al2 => ?_
    show (Ow2 K F2 H2 k).a _ _ _
    rw [(ob_of (K := K) (F := F2) (H := H2) hob).2]
    exact .inl ⟨p, C, dx, cls, _, _, _, rfl, rfl, by rw [e p (by simp)]; exact hp, by rw [e dx (by simp)]; exact hdx, by rw [← c2 F2 H2 sF]; exact hcls, rfl, al2⟩
  · refine key p [p] cls vs ds gs rfl rfl rfl al (fun H2 e => .inr (by rw [e p (by simp)]; exact hp)) fun F2 H2 ds2 gs2 sF e al2 => ?_
    show (Ow2 K F2 H2 k).a _ _ _
    rw [(ob_of (K := K) (F := F2) (H := H2) hob).2]
    exact .inr ⟨by rw [← c2 F2 H2 sF]; exact hcs, p, cls, _, _, _, rfl, rfl, by rw [e p (by simp)]; exact hp, rfl, al2⟩
theorem tup_step {K : Fg} {F H : Hp} : ∀ {n : Nat} {k k1 : Kd} {xs : List V} {ds : List D} {fs : List (List Addr)} {d1 : D}, (Ow2 K F H k).t xs ds fs → stepK (.ix n) k = some k1 → ds[n]? = some d1 →
    ∃ v1 fn fa fb, xs[n]? = some v1 ∧ Ow K F H k1 v1 d1 fn ∧ fs = fa ++ fn :: fb ∧
      ∀ F2 H2 d2 fp2, Same F F2 → (∀ f ∈ fa, ∀ q ∈ f, H2 q = H q) → (∀ f ∈ fb, ∀ q ∈ f, H2 q = H q) → Ow K F2 H2 k1 v1 d2 fp2 → (Ow2 K F2 H2 k).t xs (ds.set n d2) (fa ++ fp2 :: fb)
  | n, .tc k r, k1, xs, ds, fs, d1, h, hk, hd => by
    obtain ⟨x, d, f, xr, dr, fr, rfl, rfl, rfl, h1, h2⟩ := h
    cases n with
    | zero =>
      cases hk
      cases hd
      exact ⟨x, f, [], fr, rfl, h1, rfl, fun F2 H2 d2 fp2 sF _ hb o => ⟨x, d2, fp2, xr, dr, fr, rfl, rfl, rfl, o, (ow2_mono sF r).2.2.2 xr dr fr h2 hb⟩⟩
    | succ n =>
      obtain ⟨v1, fn, fa, fb, e1, o1, rfl, w⟩ := tup_step (n := n) (d1 := d1) h2 (show stepK (.ix n) r = some k1 from hk) (by simpa using hd)
      refine ⟨v1, fn, f :: fa, fb, by simpa using e1, o1, rfl, fun F2 H2 d2 fp2 sF ha hb o => ?_⟩
      exact ⟨x, d, f, xr, _, _, rfl, rfl, rfl, (ow2_mono sF k).1 x d f h1 (ha f (by simp)), w F2 H2 d2 fp2 sF (fun f' hf => ha f' (by simp [hf])) hb o⟩
  | n, .sh, _, _, _, _, _, h, _, _ => h.elim
  | n, .ls _, _, _, _, _, _, h, _, _ => h.elim
  | n, .pm _, _, _, _, _, _, h, _, _ => h.elim
  | n, .dc _, _, _, _, _, _, h, _, _ => h.elim
  | n, .hx _ _, _, _, _, _, _, h, _, _ => h.elim
  | n, .sd, _, _, _, _, _, h, _, _ => h.elim
  | n, .sq _, _, _, _, _, _, h, _, _ => h.elim
  | n, .at _ _, _, _, _, _, _, h, _, _ => h.elim
  | n, .oe _, _, _, _, _, _, h, _, _ => h.elim
  | n, .of _ _ _, _, _, _, _, _, h, _, _ => h.elim
  | n, .op _, _, _, _, _, _, h, _, _ => h.elim
  | n, .xr _, _, _, _, _, _, h, _, _ => h.elim
  | n, .te, _, _, _, _, _, h, _, hd => by obtain ⟨rfl, rfl, rfl⟩ := h; simp at hd
theorem ow_step {K : Fg} {F H : Hp} {s : Sel} : ∀ {k k' : Kd} {v : V} {d d' : D} {fp : List Addr}, Ow K F H k v d fp → stepK s k = some k' → getS s d = some d' → fp.Nodup →
    ∃ v' fp', VS H v s v' ∧ (∀ H2, (∀ q ∈ fp, H2 q = H q) → VS H2 v s v') ∧ Ow K F H k' v' d' fp' ∧ (∀ q ∈ fp', q ∈ fp) ∧ fp'.Nodup ∧ Wand K F H k k' v v' fp fp' (setS s d)
  | .ls k1, k', v, d, d', fp, ow, hk, hg, nd => by
    cases s with
    | fd f => cases hk
    | ix n =>
      cases hk
      obtain ⟨p, xs, ds, fs, rfl, rfl, hp, rfl, al⟩ := ow
      obtain ⟨xa, u, xb, da, db, fa, fn, fb, rfl, rfl, rfl, l1, l2, h1, h2, h3⟩ := al.split (show ds[n]? = some d' from hg)
      have hx : (xa ++ u :: xb)[n]? = some u := by rw [List.getElem?_append_right (by omega), l1]; simp
      have efp : ∀ f : List Addr, p :: (fa ++ f :: fb).flatten = [p] ++ (fa.flatten ++ (f ++ fb.flatten)) := fun f => by simp
      have inn : ∀ q, q ∈ fn → q ∈ p :: (fa ++ fn :: fb).flatten := fun q hq => by simp [hq]
      have nd' := nd
      rw [efp] at nd'
      have ndn : fn.Nodup := by
        simp only [List.nodup_append] at nd'
        exact nd'.2.1.2.1.1
      refine ⟨u, fn, ⟨p, _, rfl, .inl hp, hx⟩, fun H2 e => ⟨p, _, rfl, .inl (by rw [e p (by simp)]; exact hp), hx⟩, h2, inn, ndn, fun F2 H2 d2 fp2 sF e ow2 dj2 nd2 => ?_⟩
      obtain ⟨s1, s2⟩ := nd_swap nd' nd2 (fun q hq hq' => dj2 q hq (by rw [efp]; exact hq'))
      have dis : ∀ q, q ∈ [p] ∨ q ∈ fa.flatten ∨ q ∈ fb.flatten → q ∉ fn := fun q hq z => by
        simp only [List.nodup_append, List.mem_append] at nd'
        obtain ⟨_, ⟨_, ⟨_, _, d3⟩, d2⟩, d1⟩ := nd'
        rcases hq with hq | hq | hq
        · exact d1 q hq q (.inr (.inl z)) rfl
        · exact d2 q hq q (.inl z) rfl
        · exact d3 q z q hq rfl
      have kp : ∀ q, q ∈ [p] ∨ q ∈ fa.flatten ∨ q ∈ fb.flatten → H2 q = H q := fun q hq => e q (by
        rw [efp]
        simp only [List.mem_append]
        rcases hq with hq | hq | hq
        · exact .inl hq
        · exact .inr (.inl hq)
        · exact .inr (.inr (.inr hq))) (dis q hq)
      refine ⟨p :: (fa ++ fp2 :: fb).flatten, .list (da ++ d2 :: db), ?_, ⟨p, _, _, _, rfl, rfl, by rw [kp p (.inl (by simp))]; exact hp, rfl, (h1.imp fun a b c hc o => ow_mono sF o fun q hq => kp q (.inr (.inl (List.mem_flatten.mpr ⟨c, hc, hq⟩)))).append (.cons ow2 (h3.imp fun a b c hc o => ow_mono sF o fun q hq => kp q (.inr (.inr (List.mem_flatten.mpr ⟨c, hc, hq⟩)))))⟩, by rw [efp]; exact s1, fun q hq => ?_⟩
      · show some (PyData.list ((da ++ d' :: db).set n d2)) = _
        rw [List.set_append_right _ _ (by omega), l2]
        simp
      · rw [efp] at hq ⊢
        exact s2 q hq
  | .op k1, k', v, d, d', fp, ow, hk, hg, nd => by
    rcases ow with ⟨_, rfl, _⟩ | ow
    · cases s <;> cases hg
    · have hk' : stepK s k1 = some k' := by
        cases s with
        | ix n => cases n <;> exact hk
        | fd f => exact hk
      obtain ⟨v', fp', a1, a2, a3, a4, a5, w⟩ := ow_step (k := k1) ow hk' hg nd
      refine ⟨v', fp', a1, a2, a3, a4, a5, fun F2 H2 d2 fp2 sF e o dj n2 => ?_⟩
      obtain ⟨fp3, d3, b1, b2, b3, b4⟩ := w F2 H2 d2 fp2 sF e o dj n2
      exact ⟨fp3, d3, b1, .inr b2, b3, b4⟩
  | .tc k r, k', v, d, d', fp, ow, hk, hg, nd => by
    cases s with
    | fd f => cases hk
    | ix n =>
      obtain ⟨p, xs, ds, fs, rfl, rfl, hp, rfl, al⟩ := ow
      obtain ⟨u, fn, fa, fb, hx, h2, rfl, w⟩ := tup_step (k := .tc k r) (d1 := d') al hk (show ds[n]? = some d' from hg)
      have efp : ∀ f : List Addr, p :: (fa ++ f :: fb).flatten = [p] ++ (fa.flatten ++ (f ++ fb.flatten)) := fun f => by simp
      have inn : ∀ q, q ∈ fn → q ∈ p :: (fa ++ fn :: fb).flatten := fun q hq => by simp [hq]
      have nd' := nd
      rw [efp] at nd'
      have ndn : fn.Nodup := by
        simp only [List.nodup_append] at nd'
        exact nd'.2.1.2.1.1
      refine ⟨u, fn, ⟨p, _, rfl, .inr hp, hx⟩, fun H2 e => ⟨p, _, rfl, .inr (by rw [e p (by simp)]; exact hp), hx⟩, h2, inn, ndn, fun F2 H2 d2 fp2 sF e ow2 dj2 nd2 => ?_⟩
      obtain ⟨s1, s2⟩ := nd_swap nd' nd2 (fun q hq hq' => dj2 q hq (by rw [efp]; exact hq'))
      have dis : ∀ q, q ∈ [p] ∨ q ∈ fa.flatten ∨ q ∈ fb.flatten → q ∉ fn := fun q hq z => by
        simp only [List.nodup_append, List.mem_append] at nd'
        obtain ⟨_, ⟨_, ⟨_, _, d3⟩, d2⟩, d1⟩ := nd'
        rcases hq with hq | hq | hq
        · exact d1 q hq q (.inr (.inl z)) rfl
        · exact d2 q hq q (.inl z) rfl
        · exact d3 q z q hq rfl
      have kp : ∀ q, q ∈ [p] ∨ q ∈ fa.flatten ∨ q ∈ fb.flatten → H2 q = H q := fun q hq => e q (by
        rw [efp]
        simp only [List.mem_append]
        rcases hq with hq | hq | hq
        · exact .inl hq
        · exact .inr (.inl hq)
        · exact .inr (.inr (.inr hq))) (dis q hq)
      refine ⟨p :: (fa ++ fp2 :: fb).flatten, .tuple (ds.set n d2), rfl, ⟨p, xs, _, _, rfl, rfl, by rw [kp p (.inl (by simp))]; exact hp, rfl, w F2 H2 d2 fp2 sF (fun f hf q hq => kp q (.inr (.inl (List.mem_flatten.mpr ⟨f, hf, hq⟩)))) (fun f hf q hq => kp q (.inr (.inr (List.mem_flatten.mpr ⟨f, hf, hq⟩)))) ow2⟩, by rw [efp]; exact s1, fun q hq => ?_⟩
      rw [efp] at hq ⊢
      exact s2 q hq
  | .sh, _, _, _, _, _, _, hk, _, _ => by cases s with | ix n => cases n <;> cases hk | fd f => cases hk
  | .pm _, _, _, _, _, _, _, hk, _, _ => by cases s with | ix n => cases n <;> cases hk | fd f => cases hk
  | .dc _, _, _, _, _, _, _, hk, _, _ => by cases s with | ix n => cases n <;> cases hk | fd f => cases hk
  | .hx _ _, _, _, _, _, _, _, hk, _, _ => by cases s with | ix n => cases n <;> cases hk | fd f => cases hk
  | .sd, _, _, _, _, _, _, hk, _, _ => by cases s with | ix n => cases n <;> cases hk | fd f => cases hk
  | .sq _, _, _, _, _, _, _, hk, _, _ => by cases s with | ix n => cases n <;> cases hk | fd f => cases hk
  | .at _ _, _, _, _, _, _, _, hk, _, _ => by cases s with | ix n => cases n <;> cases hk | fd f => cases hk
  | .te, _, _, _, _, _, _, hk, _, _ => by cases s with | ix n => cases n <;> cases hk | fd f => cases hk
  | .xr _, _, _, _, _, _, _, hk, _, _ => by cases s with | ix n => cases n <;> cases hk | fd f => cases hk
  | .oe cs, k', v, d, d', fp, ow, hk, hg, nd => by
    cases s with
    | ix n => cases n <;> cases hk
    | fd f => exact ob_step rfl ow (Option.some.inj hk).symm hg nd
  | .of g k r, k', v, d, d', fp, ow, hk, hg, nd => by
    cases s with
    | ix n => cases n <;> cases hk
    | fd f => exact ob_step rfl ow (Option.some.inj hk).symm hg nd
theorem ow_path {K : Fg} {F H : Hp} : ∀ {π : List Sel} {k k' : Kd} {v : V} {d d' : D} {fp : List Addr}, Ow K F H k v d fp → kdP π k = some k' → getP π d = some d' → fp.Nodup →
    ∃ v' fp', VP H v π v' ∧ (∀ H2, (∀ q ∈ fp, H2 q = H q) → VP H2 v π v') ∧ Ow K F H k' v' d' fp' ∧ (∀ q ∈ fp', q ∈ fp) ∧ fp'.Nodup ∧ Wand K F H k k' v v' fp fp' (setP π d) := by
  intro π
  induction π with
  | nil =>
    intro k k' v d d' fp ow hk hg nd
    cases hk
    cases hg
    exact ⟨v, fp, rfl, fun _ _ => rfl, ow, fun _ h => h, nd, fun F2 H2 d2 fp2 _ _ ow2 _ nd2 => ⟨fp2, d2, rfl, ow2, nd2, fun q hq => .inl hq⟩⟩
  | cons s π ih =>
    intro k k' v d d' fp ow hk hg nd
    unfold kdP at hk
    unfold getP at hg
    cases hs : stepK s k with
    | none => rw [hs] at hk; cases hk
    | some k1 =>
      cases hd : getS s d with
      | none => rw [hd] at hg; cases hg
      | some d1 =>
        rw [hs] at hk
        rw [hd] at hg
        obtain ⟨v1, fp1, a1, a2, a3, a4, a5, w1⟩ := ow_step ow hs hd nd
        obtain ⟨v2, fp2', b1, b2, b3, b4, b5, w2⟩ := ih (d' := d') a3 hk hg a5
        refine ⟨v2, fp2', ⟨v1, a1, b1⟩, fun H2 e => ⟨v1, a2 H2 e, b2 H2 fun q hq => e q (a4 q hq)⟩, b3, fun q hq => a4 q (b4 q hq), b5, fun F2 H2 d2 fp2 sF e ow2 dj2 nd2 => ?_⟩
        obtain ⟨fp3, d3, e3, o3, n3, s3⟩ := w2 F2 H2 d2 fp2 sF (fun q hq hn => e q (a4 q hq) hn) ow2 (fun q hq hq' => dj2 q hq (a4 q hq')) nd2
        obtain ⟨fp4, d4, e4, o4, n4, s4⟩ := w1 F2 H2 d3 fp3 sF (fun q hq hn => e q hq fun z => hn (b4 q z)) o3 (fun q hq hq' => by
          rcases s3 q hq with h | h
          · exact b4 q (dj2 q h hq')
          · exact h.1) n3
        refine ⟨fp4, d4, ?_, o4, n4, fun q hq => ?_⟩
        · unfold setP
          rw [hd]
          dsimp only
          rw [e3]
          exact e4
        · rcases s4 q hq with h | ⟨h1, h2⟩
          · rcases s3 q h with h | ⟨h3, h4⟩
            · exact .inl h
            · exact .inr ⟨a4 q h3, h4⟩
          · exact .inr ⟨h1, fun z => h2 (b4 q z)⟩
theorem recK_inj : ∀ {fs gs : List (Str × V)}, recK fs = recK gs → fs = gs := fun {fs gs} h => by
  have h' : (fs.map fun x => ((Sum.inr x.1 : Key), x.2)) = gs.map fun x => ((Sum.inr x.1 : Key), x.2) := by
    unfold recK at h
    injection h
  induction fs generalizing gs with
  | nil => cases gs with
    | nil => rfl
    | cons y ys => cases h'
  | cons x xs ih => cases gs with
    | nil => cases h'
    | cons y ys =>
      rw [List.map_cons, List.map_cons] at h'
      injection h' with h1 h2
      have h3 := Prod.mk.inj h1
      have h4 : x = y := Prod.ext (Sum.inr.inj h3.1) h3.2
      rw [h4, ih (by unfold recK; rw [h2]) h2]
theorem VS.fun {H : Hp} {s : Sel} {v u w : V} (h : VS H v s u) (g : VS H v s w) : u = w := by
  cases s with
  | ix n =>
    obtain ⟨p, xs, rfl, e2, e3⟩ := h
    obtain ⟨p', xs', f1, f2, f3⟩ := g
    cases f1
    have : xs = xs' := by
      rcases e2 with e2 | e2 <;> rcases f2 with f2 | f2 <;> (rw [e2] at f2; cases f2; try rfl)
    subst this
    rw [e3] at f3
    exact Option.some.inj f3
  | fd f =>
    obtain ⟨p, fs, rfl, e2, e3⟩ := h
    obtain ⟨p', fs', f1, f2, f3⟩ := g
    cases f1
    have : fs = fs' := by
      rcases e2 with ⟨C, dx, e2⟩ | e2 <;> rcases f2 with ⟨C', dx', f2⟩ | f2
      · rw [e2] at f2; cases f2; rfl
      · rw [e2] at f2; exact nomatch (Option.some.inj f2)
      · rw [e2] at f2; exact nomatch (Option.some.inj f2)
      · rw [e2] at f2; exact recK_inj (Option.some.inj f2)
    subst this
    rw [e3] at f3
    exact Option.some.inj f3
theorem VP.fun {H : Hp} : ∀ {π : List Sel} {v u w : V}, VP H v π u → VP H v π w → u = w
  | [], _, _, _, h, g => h.symm.trans g
  | s :: π, _, _, _, ⟨a, h1, h⟩, ⟨b, g1, g⟩ => by
    have := VS.fun h1 g1
    subst this
    exact VP.fun h g
theorem VP.append {H : Hp} : ∀ {π ρ : List Sel} {v u w : V}, VP H v π u → VP H u ρ w → VP H v (π ++ ρ) w
  | [], _, _, _, _, h, g => by cases h; exact g
  | s :: π, _, _, _, _, ⟨a, h1, h⟩, g => ⟨a, h1, VP.append h g⟩
end Z
set_option Elab.async false
set_option linter.all false
set_option maxRecDepth 100000
namespace Z
open PySem L2
def asd (fps : Nat → List Addr) (i : Nat) : Nat → List Addr := fun j => if j = i then [] else fps j
structure Pt (K : Fg) (c : Ctx) (F H : Hp) (k : Kd) (w : V) (d : D) (fp : List Addr) : Prop where
  ow : Ow K F H k w d fp
  nd : fp.Nodup
  pr : ∀ q ∈ fp, F q = none ∧ H q ≠ none ∧ c.F0 q = none ∧ c.H0 q = H q ∧ ¬ c.own q
section
variable {K : Fg} {c : Ctx} {Ob O : List Kd} {F H F1 H1 F2 H2 F3 H3 : Hp} {σ : St} {fps fps1 fps2 fps3 : Nat → List Addr} {ds s1 s2 s3 : DS} {k k' k1 : Kd} {w v : V} {d d' : D} {fp : List Addr} {i : Nat} {te ti tp : TE} {m me : M D}
theorem asd_sub {q : Addr} {j : Nat} (h : q ∈ asd fps i j) : j ≠ i ∧ q ∈ fps j := by
  unfold asd at h
  by_cases z : j = i
  · rw [if_pos z] at h; exact absurd h (by simp)
  · rw [if_neg z] at h; exact ⟨z, h⟩
theorem Rel.pt (r : Rel K c O F H σ fps ds) (i : Nat) (hd : ds[i]? = some (some d)) : ∃ w, σ[i]? = some (some w) ∧ Rel K (c.from O F H (asd fps i)) O F H σ (asd fps i) (ds.set i none) ∧ Pt K (c.from O F H (asd fps i)) F H (unpm (O.getD i .sh)) w d (fps i) := by
  obtain ⟨w, hw, ow⟩ := r.slots i d hd
  have ra : Rel K c O F H σ (asd fps i) (ds.set i none) := r.aside i
  refine ⟨w, hw, ra.focus, ⟨by rw [ow_unpm]; exact ow, r.nd i, fun q hq => ?_⟩⟩
  obtain ⟨h1, h2, _⟩ := r.off i q hq
  have hn : ∀ j, q ∉ asd fps i j := fun j hj => by
    obtain ⟨z, hj⟩ := asd_sub hj
    exact r.dj j i z q hj hq
  exact ⟨h1, h2, h1, from_some fun ⟨j, hj, _⟩ => hn j hj, fun ⟨j, hj, _⟩ => hn j hj⟩
structure DPl (K : Fg) (c : Ctx) (O : List Kd) (i : Nat) (k : Kd) (t : TE) (mp : D → M (List Sel)) (k' : Kd) : Prop where
  kd : ∀ {d : D} {ds ds' : DS} {π : List Sel}, mp d ds = .ok π ds' → kdP π k = some k'
  run : ∀ {F H : Hp} {σ : St} {fps : Nat → List Addr} {ds ds' : DS} {π : List Sel} {w : V} {d : D} {fp : List Addr}, Rel K c O F H σ fps ds → mp d ds = .ok π ds' → σ[i]? = some (some w) → Pt K c F H k w d fp → (getP π d).isSome = true →
    ∀ Q : VK, (∀ F' H' fps' v, Same F F' → Rel K c O F' H' σ fps' ds' → VP H' w π v → Q v H') → t σ H Q
def plR : D → M (List Sel) := fun _ s => .ok [] s
def plIx (mp : D → M (List Sel)) (me : M D) : D → M (List Sel) := fun d => bnd (mp d) fun π => bnd me fun z => opt (match z, getP π d with
  | .int j, some (.list xs) => (ixN xs.length j).map fun n => π ++ [.ix n]
  | _, _ => none)
def sPutP (i : Nat) (mp : D → M (List Sel)) (me m : M D) : MS := fun s => match m s with
  | .ok v s1 => match s1[i]? with
    | some (some d) => match mp d (s1.set i none) with
      | .ok π s2 => match me s2 with
        | .ok z s3 => match z, getP π d with
          | .int j, some (.list xs) => match ixN xs.length j with
            | some n => match setP π d (.list (xs.set n v)) with
              | some d' => .nx (s3.set i (some d'))
              | none => .no
            | none => .no
          | _, _ => .no
        | .no => .no
      | .no => .no
    | _ => .no
  | .no => .no
def sAppP (i : Nat) (mp : D → M (List Sel)) (m : M D) : MS := fun s => match s[i]? with
  | some (some d) => match mp d (s.set i none) with
    | .ok π s2 => match m s2 with
      | .ok v s3 => match getP π d with
        | some (.list xs) => if decide (xs.length < sizeLine) then (match setP π d (.list (xs ++ [v])) with
          | some d' => .nx (s3.set i (some d'))
          | none => .no) else .no
        | _ => .no
      | .no => .no
    | .no => .no
  | _ => .no
end
end Z
set_option Elab.async false
set_option linter.all false
set_option maxRecDepth 100000
set_option maxHeartbeats 4000000
namespace Z
open PySem L2 PyProof.Rows
section
variable {prog : Program} {w : World} {A : Around} {E : Value → Shared → Prop} {s : Shared} {l I S : Addr} {vs : List Value} {ns : List Int} {R : Result → Shared → Prop}
end
section
variable {K : Fg} {c : Ctx} {O : List Kd} {tl : TA} {bl : M (List BR)}
end
section
variable {Q : D → Prop}
end
end Z
set_option Elab.async false
set_option linter.all false
set_option maxRecDepth 100000
namespace Z
open PySem L2
mutual
def noL : D → Bool
  | .none => true
  | .bool _ => true
  | .int _ => true
  | .str _ => true
  | .tuple xs => noLs xs
  | _ => false
def noLs : List D → Bool
  | [] => true
  | x :: r => noL x && noLs r
end
def flatOwn : D → Bool
  | .list xs => noLs xs
  | _ => false
def frzF (F H : Hp) (fp : List Addr) : Hp := fun b => if b ∈ fp then H b else F b
def minF (F : Hp) (fp : List Addr) : Hp := fun b => if b ∈ fp then none else F b
section
variable {K : Fg} {F H : Hp} {fp : List Addr}
theorem minF_out {b : Addr} (h : b ∉ fp) : minF F fp b = F b := if_neg h
theorem same_frz (h : ∀ q ∈ fp, F q = none) : Same F (frzF F H fp) := fun b u e => by
  unfold frzF
  by_cases z : b ∈ fp
  · rw [h b z] at e; cases e
  · rw [if_neg z]; exact e
mutual
theorem dp_min (hL : ∀ q ∈ fp, ∃ xs, F q = some (.lst xs)) : ∀ {v : V} {d : D}, Dp K F v d → noL d = true → Dp K (minF F fp) v d
  | _, _, .non, _ => .non
  | _, _, .bl b, _ => .bl b
  | _, _, .int i, _ => .int i
  | _, _, .str x, _ => .str x
  | _, _, .lst h r, n => by cases n
  | _, _, .tup (a := a) h r, n => by
    refine .tup ?_ (dpa_min hL r (by simpa [noL] using n))
    rcases h with (h | ⟨o, h⟩) | h
    · refine .inl (.inl ?_)
      rw [minF_out fun z => by obtain ⟨xs, e⟩ := hL a z; rw [e] at h; cases h]
      exact h
    · refine .inl (.inr ⟨o, ?_⟩)
      rw [minF_out fun z => by obtain ⟨xs, e⟩ := hL a z; rw [e] at h; cases h]
      exact h
    · exact .inr h
theorem dpa_min (hL : ∀ q ∈ fp, ∃ xs, F q = some (.lst xs)) : ∀ {vs : List V} {ds : List D}, DpAll K F vs ds → noLs ds = true → DpAll K (minF F fp) vs ds
  | _, _, .nil, _ => .nil
  | _, _, .cons h r, n => by
    rw [noLs, Bool.and_eq_true] at n
    exact .cons (dp_min hL h n.1) (dpa_min hL r n.2)
end
end
def mix (s s' : DS) : List Nat → DS
  | [] => s
  | j :: js => (mix s s' js).set j (s'[j]?.getD none)
def fzOk (js : List Nat) (s : DS) : Bool := js.all fun j => match s[j]? with
  | some (some d) => flatOwn d
  | _ => true
def mFz (i : Nat) (js : List Nat) (m : M D) : M D := fun s => match s[i]? with
  | some (some _) => match m s with
    | .ok d s' => if noL d && fzOk js s' then .ok d (mix s s' js) else .no
    | .no => .no
  | _ => .no
section
variable {K : Fg} {c : Ctx} {O : List Kd} {t : TE} {m : M D}
end
end Z
set_option Elab.async false
set_option linter.all false
set_option maxRecDepth 100000
namespace Z
open PySem L2
section
variable {K : Fg} {c : Ctx} {Ob O O' : List Kd} {F H : Hp} {σ : St} {fps : Nat → List Addr} {ds : DS} {t : TS} {b : MS} {te ta tb ti tp : TE} {m me : M D} {tl : TA} {bl : M (List BR)} {b1 : M BR}
def listOfD : List D → Option D
  | [.list xs] => some (.list xs)
  | [.tuple xs] => some (.list xs)
  | _ => none
def repC (n : Nat) (k : Int) : Bool := decide (-(2 ^ 63) ≤ k ∧ k < 2 ^ 63 ∧ n * k.toNat ≤ sizeLine)
def mRep (a b : M D) : M D := bnd a fun x => bnd b fun y => opt (match x, y with
  | .list xs, .int k => if repC xs.length k then some (.list (List.replicate k.toNat xs).flatten) else none
  | _, _ => none)
end
end Z
set_option Elab.async false
set_option linter.all false
set_option maxRecDepth 100000
namespace Z
open PySem L2
section
variable {K : Fg} {c : Ctx} {Ob O O' : List Kd} {te tp : TE} {m : M D}
end
section
variable {α : Type} {s : DS} {Nx Bk Ct : DS → Prop} {Ex : Xc → DS → Prop} {Rt : D → DS → Prop}
theorem run_putP_0 {i : Nat} {mp : D → M (List Sel)} {me m : M D} : Run0 (sPutP i mp me m) s Nx Rt Bk Ct Ex = Ev0 m s fun v s1 => So0 (look s1 i) fun d => Ev0 (mp d) (s1.set i none) fun π s2 => Ev0 me s2 fun z s3 => So0 (iof z) fun j => So0 (getP π d) fun x => So0 (lof x) fun xs => So0 (ixN xs.length j) fun n => So0 (setP π d (.list (xs.set n v))) fun d' => Nx (s3.set i (some d')) := by
  unfold Run0 sPutP look Ev0
  cases m s with
  | no => rfl
  | ok v s1 =>
    simp only
    cases s1[i]? with
    | none => rfl
    | some o =>
      cases o with
      | none => rfl
      | some d =>
        simp only [so_some_0]
        cases mp d (s1.set i none) with
        | no => rfl
        | ok π s2 =>
          simp only
          cases me s2 with
          | no => rfl
          | ok z s3 =>
            simp only
            cases z with
            | int j =>
              simp only [iof, so_some_0]
              cases getP π d with
              | none => rfl
              | some x =>
                simp only [so_some_0]
                cases x with
                | list xs =>
                  simp only [lof, so_some_0]
                  cases ixN xs.length j with
                  | none => rfl
                  | some n =>
                    simp only [so_some_0]
                    cases setP π d (.list (xs.set n v)) <;> rfl
                | _ => rfl
            | _ => rfl
theorem run_appP_0 {i : Nat} {mp : D → M (List Sel)} {m : M D} : Run0 (sAppP i mp m) s Nx Rt Bk Ct Ex = So0 (look s i) fun d => Ev0 (mp d) (s.set i none) fun π s2 => Ev0 m s2 fun v s3 => So0 (getP π d) fun x => So0 (lof x) fun xs => decide (xs.length < sizeLine) = true ∧ So0 (setP π d (.list (xs ++ [v]))) fun d' => Nx (s3.set i (some d')) := by
  unfold Run0 sAppP look Ev0
  cases s[i]? with
  | none => rfl
  | some o =>
    cases o with
    | none => rfl
    | some d =>
      simp only [so_some_0]
      cases mp d (s.set i none) with
      | no => rfl
      | ok π s2 =>
        simp only
        cases m s2 with
        | no => rfl
        | ok v s3 =>
          simp only
          cases getP π d with
          | none => rfl
          | some x =>
            simp only [so_some_0]
            cases x with
            | list xs =>
              simp only [lof, so_some_0]
              by_cases hc : decide (xs.length < sizeLine) = true
              · simp only [hc, if_true, true_and]
                cases setP π d (.list (xs ++ [v])) <;> rfl
              · simp only [hc, if_false, false_and, Bool.false_eq_true]
            | _ => rfl
theorem ev_plR_0 {d : D} {Q : List Sel → DS → Prop} : Ev0 (plR d) s Q = Q [] s := nr rfl
def ixP (π : List Sel) (d : D) (z : D) : Option (List Sel) := match z, getP π d with
  | .int j, some (.list xs) => (ixN xs.length j).map fun n => π ++ [.ix n]
  | _, _ => none
theorem ev_plIx_0 {d : D} {mp : D → M (List Sel)} {me : M D} {Q : List Sel → DS → Prop} : Ev0 (plIx mp me d) s Q = Ev0 (mp d) s fun π s1 => Ev0 me s1 fun z s2 => So0 (ixP π d z) fun ρ => Q ρ s2 := by
  unfold plIx
  rw [ev_bnd_0]; refine ev_ext_0 fun π s1 => ?_
  rw [ev_bnd_0]; refine ev_ext_0 fun z s2 => ?_
  rw [ev_opt_0]
  rfl
theorem ev_fz_0 {i : Nat} {js : List Nat} {m : M D} {Q : D → DS → Prop} : Ev0 (mFz i js m) s Q = So0 (look s i) fun _ => Ev0 m s fun d s' => (noL d && fzOk js s') = true ∧ Q d (mix s s' js) := by
  unfold Ev0 mFz look
  cases s[i]? with
  | none => rfl
  | some o =>
    cases o with
    | none => rfl
    | some x =>
      simp only [so_some_0]
      cases m s with
      | no => rfl
      | ok d s' =>
        simp only
        by_cases hc : (noL d && fzOk js s') = true
        · simp only [hc, if_true, true_and]
        · simp only [hc, if_false, false_and, Bool.false_eq_true]
theorem ev_rep_0 {a b : M D} {Q : D → DS → Prop} : Ev0 (mRep a b) s Q = Ev0 a s fun x s1 => Ev0 b s1 fun y s2 => So0 (lof x) fun xs => So0 (iof y) fun k => repC xs.length k = true ∧ Q (.list (List.replicate k.toNat xs).flatten) s2 := by
  unfold mRep
  rw [ev_bnd_0]; refine ev_ext_0 fun x s1 => ?_
  rw [ev_bnd_0]; refine ev_ext_0 fun y s2 => ?_
  rw [ev_opt_0]
  cases x with
  | list xs =>
    cases y with
    | int k =>
      simp only [lof, iof, so_some_0]
      rw [so_if_0]
      rfl
    | _ => rfl
  | _ => cases y <;> rfl
theorem run_putP {i : Nat} {mp : D → M (List Sel)} {me m : M D} : Run (sPutP i mp me m) s Nx Rt Bk Ct Ex = Ev m s fun v s1 => So (look s1 i) fun d => Ev (mp d) (s1.set i none) fun π s2 => Ev me s2 fun z s3 => So (iof z) fun j => So (getP π d) fun x => So (lof x) fun xs => So (ixN xs.length j) fun n => So (setP π d (.list (xs.set n v))) fun d' => Nx (s3.set i (some d')) := by with_unfolding_all exact run_putP_0
theorem run_appP {i : Nat} {mp : D → M (List Sel)} {m : M D} : Run (sAppP i mp m) s Nx Rt Bk Ct Ex = So (look s i) fun d => Ev (mp d) (s.set i none) fun π s2 => Ev m s2 fun v s3 => So (getP π d) fun x => So (lof x) fun xs => decide (xs.length < sizeLine) = true ∧ So (setP π d (.list (xs ++ [v]))) fun d' => Nx (s3.set i (some d')) := by with_unfolding_all exact run_appP_0
theorem ev_plR {d : D} {Q : List Sel → DS → Prop} : Ev (plR d) s Q = Q [] s := by with_unfolding_all exact ev_plR_0
theorem ev_plIx {d : D} {mp : D → M (List Sel)} {me : M D} {Q : List Sel → DS → Prop} : Ev (plIx mp me d) s Q = Ev (mp d) s fun π s1 => Ev me s1 fun z s2 => So (ixP π d z) fun ρ => Q ρ s2 := by with_unfolding_all exact ev_plIx_0
theorem ev_fz {i : Nat} {js : List Nat} {m : M D} {Q : D → DS → Prop} : Ev (mFz i js m) s Q = So (look s i) fun _ => Ev m s fun d s' => (noL d && fzOk js s') = true ∧ Q d (mix s s' js) := by with_unfolding_all exact ev_fz_0
theorem ev_rep {a b : M D} {Q : D → DS → Prop} : Ev (mRep a b) s Q = Ev a s fun x s1 => Ev b s1 fun y s2 => So (lof x) fun xs => So (iof y) fun k => repC xs.length k = true ∧ Q (.list (List.replicate k.toNat xs).flatten) s2 := by with_unfolding_all exact ev_rep_0
theorem so_listOfL {l : List D} {Q : D → Prop} : So (listOfD [.list l]) Q = Q (.list l) := by with_unfolding_all exact nr rfl
theorem so_listOfT {l : List D} {Q : D → Prop} : So (listOfD [.tuple l]) Q = Q (.list l) := by with_unfolding_all exact nr rfl
theorem mx0 {s s' : DS} : mix s s' [] = s := nr rfl
theorem mxC {s s' : DS} {j : Nat} {js : List Nat} : mix s s' (j :: js) = (mix s s' js).set j (oat s' j) := nr rfl
theorem fz0 {s : DS} : fzOk [] s = true := nr rfl
theorem noL_i {i : Int} : noL (.int i) = true := nr rfl
theorem noL_n : noL .none = true := nr rfl
theorem noL_b {b : Bool} : noL (.bool b) = true := nr rfl
theorem noL_s {b : Str} : noL (.str b) = true := nr rfl
theorem noL_t {l : List D} : noL (.tuple l) = noLs l := nr (by simp [noL])
theorem noLs_n : noLs [] = true := nr (by simp [noLs])
theorem noLs_c {x : D} {l : List D} : noLs (x :: l) = (noL x && noLs l) := nr (by simp [noLs])
theorem getP0 {d : D} : getP [] d = some d := nr rfl
theorem setP0 {d x : D} : setP [] d x = some x := nr rfl
theorem so_ixP0 {l : List D} {j : Int} {Q : List Sel → Prop} : So (ixP [] (.list l) (.int j)) Q = So (ixN l.length j) fun n => Q [.ix n] := by
  show So ((ixN l.length j).map fun n => [] ++ [Sel.ix n]) Q = _
  rw [so_map]; rfl
theorem so_getP1 {l : List D} {n : Nat} {Q : D → Prop} : So (getP [.ix n] (.list l)) Q = So l[n]? Q := by
  have : getP [.ix n] (.list l) = l[n]? := by
    show (match l[n]? with | some d => getP [] d | none => none) = _
    cases l[n]? <;> rfl
  rw [this]
end
end Z
namespace Z
open PySem L2
end Z
namespace Z
open PySem L2
def flatO : Option D → Bool
  | some d => flatOwn d
  | none => true
theorem fzC {s : DS} {j : Nat} {js : List Nat} : fzOk (j :: js) s = (flatO (oat s j) && fzOk js s) := by
  unfold fzOk
  rw [List.all_cons]
  congr 1
  unfold oat
  cases s[j]? with
  | none => rfl
  | some o => cases o <;> rfl
theorem flO {d : D} : flatO (some d) = flatOwn d := nr rfl
theorem flN : flatO none = true := nr rfl
end Z
namespace Z
open PySem L2
theorem so_listL {l : List D} {Q : D → Prop} : So (listD [.list l]) Q = Q (.list l) := by with_unfolding_all exact nr rfl
theorem so_listT {l : List D} {Q : D → Prop} : So (listD [.tuple l]) Q = Q (.list l) := by with_unfolding_all exact nr rfl
theorem so_tupL {l : List D} {Q : D → Prop} : So (tupleD [.list l]) Q = Q (.tuple l) := by with_unfolding_all exact nr rfl
theorem so_tupT {l : List D} {Q : D → Prop} : So (tupleD [.tuple l]) Q = Q (.tuple l) := by with_unfolding_all exact nr rfl
end Z
set_option Elab.async false
set_option linter.all false
set_option maxRecDepth 100000
namespace Z
open PySem L2 PyProof.Rows
def entB : List DictEntry → List (Int × Int) → Bool
  | [], [] => true
  | ⟨h, .int k _, .int v _⟩ :: es, (k', v') :: r => decide (h = hashInt k) && (decide (k = k') && (decide (v = v') && entB es r))
  | _, _ => false
def kintB (K : Fg) (a : Addr) (kvs : List (Int × Int)) : Bool := (match K.lookup a with
  | some ⟨.type c, none, .dict es _, sl⟩ => decide (c = "dict") && (decide (sl = #[]) && entB es.toList kvs)
  | _ => false) && (!(a == sysModules) && decide (kvs.map (·.1)).Nodup)
structure KInt (K : Fg) (a : Addr) (kvs : List (Int × Int)) : Prop where
  ok : kintB K a kvs = true
theorem entB_ok {P : Program} {w : World} : ∀ {es : List DictEntry} {kvs : List (Int × Int)}, entB es kvs = true → ∃ vs : List (Key × Value), Pairs (mixKind P w) es vs ∧ (∀ e ∈ es, ∃ k, (mixKind P w).is k e.key = true ∧ e.hash = (mixKind P w).hash k) ∧ vs.map (·.1) = kvs.map (fun p => Sum.inl p.1) ∧ ∀ i : Int, RelO ((kvs.lookup i).map V.int) (valueAt vs (.inl i))
  | [], [], _ => ⟨[], .nil, fun e h => (by cases h), rfl, fun i => True.intro⟩
  | [], _ :: _, h => by cases h
  | ⟨hh, kk, vv⟩ :: es, [], h => by
    cases kk <;> cases vv <;> cases h
  | ⟨hh, kk, vv⟩ :: es, (k', v') :: r, h => by
    cases kk with
    | int k t =>
      cases vv with
      | int v u =>
        unfold entB at h
        rw [Bool.and_eq_true, Bool.and_eq_true, Bool.and_eq_true] at h
        obtain ⟨h1, h2, h3, h4⟩ := h
        have h1 : hh = hashInt k := of_decide_eq_true h1
        have h2 : k = k' := of_decide_eq_true h2
        have h3 : v = v' := of_decide_eq_true h3
        subst h1 h2 h3
        obtain ⟨vs, p, ks, em, rv⟩ := entB_ok (P := P) (w := w) h4
        refine ⟨(.inl k, .int v u) :: vs, .cons (mixKind_int P w k t) rfl p, fun e he => ?_, by simp [em], fun i => ?_⟩
        · rcases List.mem_cons.mp he with rfl | he
          · exact ⟨.inl k, mixKind_int P w k t, rfl⟩
          · exact ks e he
        · rw [List.lookup_cons]
          unfold valueAt
          rw [List.find?_cons]
          by_cases z : i = k
          · subst z
            simp only [beq_self_eq_true]
            simp only [decide_true]
            exact ⟨u, rfl⟩
          · have e1 : (i == k) = false := by simpa using z
            have e2 : decide ((Sum.inl k : Key) = Sum.inl i) = false := decide_eq_false fun q => z (Sum.inl.inj q).symm
            simp only [e1, e2]
            exact rv i
      | _ => cases h
    | _ => cases vv <;> cases h
theorem KInt.dict {K : Fg} {a : Addr} {kvs : List (Int × Int)} (x : KInt K a kvs) {P : Program} {w : World} {h : Heap} (X : K.In h) : (a == sysModules) = false ∧ ∃ vs : List (Key × Value), h.DictOf (mixKind P w) a vs ∧ ∀ i : Int, RelO ((kvs.lookup i).map V.int) (valueAt vs (.inl i)) := by
  have ok := x.ok
  unfold kintB at ok
  rw [Bool.and_eq_true, Bool.and_eq_true] at ok
  obtain ⟨h1, h2, h3⟩ := ok
  refine ⟨by simpa using h2, ?_⟩
  cases q : K.lookup a with
  | none => rw [q] at h1; cases h1
  | some o =>
    rw [q] at h1
    obtain ⟨oc, od, dt, sl⟩ := o
    cases oc with
    | type c =>
      cases od with
      | none =>
        cases dt with
        | dict es ep =>
          dsimp only at h1
          rw [Bool.and_eq_true, Bool.and_eq_true] at h1
          obtain ⟨e1, e2, e3⟩ := h1
          have e1 : c = "dict" := of_decide_eq_true e1
          have e2 : sl = #[] := of_decide_eq_true e2
          subst e1 e2
          obtain ⟨vs, p, ks, em, rv⟩ := entB_ok (P := P) (w := w) e3
          refine ⟨vs, ⟨_, es, ep, X _ _ q, ⟨rfl, rfl, rfl⟩, rfl, fun e he => ks e (by simpa using he), p, ?_⟩, rv⟩
          rw [em]
          have nd : (kvs.map (·.1)).Nodup := of_decide_eq_true h3
          have : kvs.map (fun p => (Sum.inl p.1 : Key)) = (kvs.map (·.1)).map Sum.inl := by rw [List.map_map]; rfl
          rw [this]
          exact List.Pairwise.map _ (fun a b (hne : a ≠ b) (z : (Sum.inl a : Key) = Sum.inl b) => hne (Sum.inl.inj z)) nd
        | _ => cases h1
      | some d => cases dt <;> cases h1
    | _ => cases od <;> cases dt <;> cases h1
section
variable {X : Cx} {a : Addr} {kvs : List (Int × Int)} {x : Str} {p pos : Pos} {e : Expr} {te : TE}
end
section
variable {K : Fg} {c : Ctx} {O : List Kd} {te : TE} {m : M D} {kvs : List (Int × Int)} {neg : Bool}
end
def obsE (n : Nat) (fa : List He.Fa) (fn : List He.DefD) (ex : Fg → Bool) (g : Addr → Option Obj) : He.AlD × Bool := (He.obsDG n fa fn g, ex (He.frG g (He.asD g n)))
end Z
namespace Z
open PySem L2
end Z
set_option Elab.async false
set_option linter.all false
set_option maxRecDepth 100000
namespace Z
open PySem L2
abbrev JS := List (Option (Nat × Bool))
inductive BgA (K : Fg) (F : Hp) (σ : St) : JS → List V → List D → Prop
  | nil : BgA K F σ [] [] []
  | e {v : V} {d : D} {js : JS} {vs : List V} {ds : List D} : Dp K F v d → BgA K F σ js vs ds → BgA K F σ (none :: js) (v :: vs) (d :: ds)
  | s {v : V} {j : Nat} {b : Bool} {js : JS} {vs : List V} {ds : List D} : σ[j]? = some (some v) → BgA K F σ js vs ds → BgA K F σ (some (j, b) :: js) (v :: vs) (.none :: ds)
theorem BgA.mono {K : Fg} {F F' : Hp} {σ : St} (s : Same F F') : ∀ {js : JS} {vs : List V} {ds : List D}, BgA K F σ js vs ds → BgA K F' σ js vs ds
  | _, _, _, .nil => .nil
  | _, _, _, .e h r => .e (dp_mono s h) (r.mono s)
  | _, _, _, .s h r => .s h (r.mono s)
structure DAG (K : Fg) (c : Ctx) (O : List Kd) (js : JS) (t : TA) (m : M (List D)) : Prop where
  run : ∀ {F H : Hp} {σ : St} {fps : Nat → List Addr} {ds ds' : DS} {es : List D}, Rel K c O F H σ fps ds → m ds = .ok es ds' → ∀ Q : List V → Hp → Prop,
    (∀ F' H' fps' vs, Same F F' → Rel K c O F' H' σ fps' ds' → BgA K F' σ js vs es → Q vs H') → t σ H Q
def mAt (j : Nat) : M D := fun s => match s[j]? with
  | some (some _) => .ok .none s
  | _ => .no
section
variable {K : Fg} {c : Ctx} {O : List Kd} {js : JS} {te : TE} {tl : TA} {m : M D} {ml : M (List D)}
theorem dag_nil : DAG K c O [] tNil mNil := ⟨fun r e Q q => by cases e; exact q _ _ _ [] (Same.refl _) r .nil⟩
theorem dag_e (ha : DE K c O te m) (hl : DAG K c O js tl ml) : DAG K c O (none :: js) (tCons te tl) (mCons m ml) := ⟨fun {F H σ fps ds ds' es} rl e Q q => by
  obtain ⟨x, s1, e1, g1⟩ := bnd_ok e
  obtain ⟨xs, s2, e2, g2⟩ := bnd_ok g1
  cases g2
  exact ha.run rl e1 _ fun F1 H1 fps1 v sF r1 dp => hl.run r1 e2 _ fun F2 H2 fps2 vs sF2 r2 al => q F2 H2 fps2 _ (sF.trans sF2) r2 (.e (dp_mono sF2 dp) al)⟩
theorem dag_s (j : Nat) (b : Bool) (hl : DAG K c O js tl ml) : DAG K c O (some (j, b) :: js) (tCons (tVar j) tl) (mCons (mAt j) ml) := ⟨fun {F H σ fps ds ds' es} rl e Q q => by
  obtain ⟨x, s1, e1, g1⟩ := bnd_ok e
  obtain ⟨xs, s2, e2, g2⟩ := bnd_ok g1
  cases g2
  unfold mAt at e1
  split at e1
  · rename_i d hd
    cases e1
    obtain ⟨v, hv, _⟩ := rl.slots j _ hd
    exact ⟨v, hv, hl.run rl e2 _ fun F2 H2 fps2 vs sF2 r2 al => q F2 H2 fps2 _ sF2 r2 (.s hv al)⟩
  · cases e1⟩
end
def fillG (s : DS) : JS → List D → Option (List D)
  | [], [] => some []
  | none :: js, x :: xs => match fillG s js xs with
    | some r => some (x :: r)
    | none => none
  | some (j, _) :: js, _ :: xs => match look s j with
    | some d => match fillG s js xs with
      | some r => some (d :: r)
      | none => none
    | none => none
  | _, _ => none
def backG : JS → List D → DS → DS
  | none :: js, _ :: as, s => backG js as s
  | some (j, false) :: js, a :: as, s => backG js as (s.set j (some a))
  | some (j, true) :: js, _ :: as, s => backG js as (s.set j none)
  | _, _, s => s
inductive JOk (O : List Kd) : List Kd → JS → Prop
  | nil : JOk O [] []
  | e {ps : List Kd} {js : JS} : JOk O ps js → JOk O (.sh :: ps) (none :: js)
  | pm {j : Nat} {k : Kd} {ps : List Kd} {js : JS} : isPm O[j]? = false → O.getD j .sh = k → JOk O ps js → JOk O (.pm k :: ps) (some (j, false) :: js)
  | pp {j : Nat} {k : Kd} {ps : List Kd} {js : JS} : O[j]? = some (.pm k) → JOk O ps js → JOk O (.pm k :: ps) (some (j, false) :: js)
  | mv {j : Nat} {k : Kd} {ps : List Kd} {js : JS} : isPm O[j]? = false → O.getD j .sh = k → isPm (some k) = false → JOk O ps js → JOk O (k :: ps) (some (j, true) :: js)
def gl (fps : Nat → List Addr) (js : JS) (i : Nat) : List Addr := match js[i]? with
  | some (some (j, _)) => fps j
  | _ => []
def slG (js : JS) : List Nat := js.filterMap fun o => o.map (·.1)
def posG : JS → Nat → Option (Nat × Bool)
  | [], _ => none
  | none :: js, j => (posG js j).map fun p => (p.1 + 1, p.2)
  | some (l, b) :: js, j => if l = j then some (0, b) else (posG js j).map fun p => (p.1 + 1, p.2)
theorem posG_some : ∀ {js : JS} {j i : Nat} {b : Bool}, posG js j = some (i, b) → js[i]? = some (some (j, b))
  | [], j, i, b, h => by cases h
  | none :: js, j, i, b, h => by
    unfold posG at h
    cases z : posG js j with
    | none => rw [z] at h; cases h
    | some p => rw [z] at h; cases h; exact posG_some (js := js) z
  | some (l, b') :: js, j, i, b, h => by
    unfold posG at h
    by_cases z : l = j
    · rw [if_pos z] at h; cases h; subst z; rfl
    · rw [if_neg z] at h
      cases z : posG js j with
      | none => rw [z] at h; cases h
      | some p => rw [z] at h; cases h; exact posG_some (js := js) z
theorem posG_none : ∀ {js : JS} {j i : Nat} {b : Bool}, posG js j = none → js[i]? ≠ some (some (j, b))
  | [], j, i, b, h => by simp
  | none :: js, j, i, b, h => by
    unfold posG at h
    cases z : posG js j with
    | some p => rw [z] at h; cases h
    | none =>
      cases i with
      | zero => simp
      | succ i => exact posG_none (js := js) z
  | some (l, b') :: js, j, i, b, h => by
    unfold posG at h
    by_cases z : l = j
    · rw [if_pos z] at h; cases h
    · rw [if_neg z] at h
      cases y : posG js j with
      | some p => rw [y] at h; cases h
      | none =>
        cases i with
        | zero => simp; intro h; exact absurd h z
        | succ i => exact posG_none (js := js) y
theorem slG_mem {js : JS} {j i : Nat} {b : Bool} (h : js[i]? = some (some (j, b))) : j ∈ slG js := by
  unfold slG
  exact List.mem_filterMap.mpr ⟨_, List.mem_of_getElem? h, rfl⟩
theorem backG_len : ∀ (js : JS) (as : List D) (s : DS), (backG js as s).length = s.length
  | [], _, s => rfl
  | none :: js, [], s => rfl
  | none :: js, _ :: as, s => backG_len js as s
  | some (j, false) :: js, [], s => rfl
  | some (j, true) :: js, [], s => rfl
  | some (j, false) :: js, a :: as, s => by unfold backG; rw [backG_len js as]; exact List.length_set
  | some (j, true) :: js, a :: as, s => by unfold backG; rw [backG_len js as]; exact List.length_set
theorem backG_out : ∀ (js : JS) (as : List D) (s : DS) (j : Nat), posG js j = none → (backG js as s)[j]? = s[j]?
  | [], _, s, j, h => rfl
  | none :: js, [], s, j, h => rfl
  | none :: js, _ :: as, s, j, h => backG_out js as s j (by unfold posG at h; simpa using h)
  | some (l, false) :: js, [], s, j, h => rfl
  | some (l, true) :: js, [], s, j, h => rfl
  | some (l, false) :: js, a :: as, s, j, h => by
    unfold posG at h
    by_cases z : l = j
    · rw [if_pos z] at h; cases h
    · rw [if_neg z] at h
      unfold backG; rw [backG_out js as _ j (by simpa using h)]; exact List.getElem?_set_ne z
  | some (l, true) :: js, a :: as, s, j, h => by
    unfold posG at h
    by_cases z : l = j
    · rw [if_pos z] at h; cases h
    · rw [if_neg z] at h
      unfold backG; rw [backG_out js as _ j (by simpa using h)]; exact List.getElem?_set_ne z
theorem posG_nil {js : JS} {j : Nat} (h : j ∉ slG js) : posG js j = none := by
  cases z : posG js j with
  | none => rfl
  | some p => exact absurd (slG_mem (posG_some (b := p.2) (i := p.1) z)) h
theorem backG_in : ∀ {js : JS} {as : List D} {s : DS} {j i : Nat} {b : Bool}, (slG js).Nodup → as.length = js.length → j < s.length → js[i]? = some (some (j, b)) → (backG js as s)[j]? = some (if b then none else as[i]?)
  | [], _, s, j, i, b, _, _, _, h => by simp at h
  | none :: js, [], s, j, i, b, _, hl, _, h => by simp at hl
  | none :: js, a :: as, s, j, i, b, nd, hl, hj, h => by
    cases i with
    | zero => simp at h
    | succ i => exact backG_in (js := js) (as := as) (by simpa [slG] using nd) (by simpa using hl) hj (by simpa using h)
  | some (l, c) :: js, [], s, j, i, b, _, hl, _, h => by simp at hl
  | some (l, c) :: js, a :: as, s, j, i, b, nd, hl, hj, h => by
    have nd' : l ∉ slG js ∧ (slG js).Nodup := by simpa [slG] using nd
    cases i with
    | zero =>
      have hh : l = j ∧ c = b := by simpa using h
      obtain ⟨rfl, rfl⟩ := hh
      cases c with
      | false => unfold backG; rw [backG_out js as _ l (posG_nil nd'.1), List.getElem?_set_self hj]; rfl
      | true => unfold backG; rw [backG_out js as _ l (posG_nil nd'.1), List.getElem?_set_self hj]; rfl
    | succ i =>
      cases c with
      | false => unfold backG; exact backG_in (js := js) (as := as) nd'.2 (by simpa using hl) (by rw [List.length_set]; exact hj) (by simpa using h)
      | true => unfold backG; exact backG_in (js := js) (as := as) nd'.2 (by simpa using hl) (by rw [List.length_set]; exact hj) (by simpa using h)
section
variable {K : Fg} {c : Ctx} {O ps : List Kd} {F H F' H' : Hp} {σ : St} {fps gps' : Nat → List Addr} {ds : DS}
theorem JOk.len : ∀ {ps : List Kd} {js : JS}, JOk O ps js → js.length = ps.length
  | _, _, .nil => rfl
  | _, _, .e h => by simp [h.len]
  | _, _, .pm _ _ h => by simp [h.len]
  | _, _, .pp _ h => by simp [h.len]
  | _, _, .mv _ _ _ h => by simp [h.len]
theorem unpm_not {k : Kd} (h : isPm (some k) = false) : unpm k = k := by cases k <;> first | rfl | cases h
theorem unpm_at {O : List Kd} {j : Nat} (h : isPm O[j]? = false) : unpm (O.getD j .sh) = O.getD j .sh := by
  rw [List.getD_eq_getElem?_getD]
  cases z : O[j]? with
  | none => rfl
  | some k => rw [z] at h; exact unpm_not h
theorem JOk.at : ∀ {ps : List Kd} {js : JS} {i j : Nat} {b : Bool}, JOk O ps js → js[i]? = some (some (j, b)) → (b = true → isPm O[j]? = false) ∧ isPm ps[i]? = !b ∧ (b = false → ps[i]? = some (.pm (unpm (O.getD j .sh))))
  | _, _, i, _, _, .nil, h => by simp at h
  | _, _, i, _, _, .e r, h => by
    cases i with
    | zero => simp at h
    | succ i => simpa using r.at (i := i) (by simpa using h)
  | _, _, i, _, _, .pm h1 h2 r, h => by
    cases i with
    | zero =>
      simp at h
      obtain ⟨rfl, rfl⟩ := h
      exact ⟨fun z => by (cases z), rfl, fun _ => by rw [unpm_at h1, h2]; rfl⟩
    | succ i => simpa using r.at (i := i) (by simpa using h)
  | _, _, i, _, _, .pp h1 r, h => by
    cases i with
    | zero =>
      simp at h
      obtain ⟨rfl, rfl⟩ := h
      exact ⟨fun z => by (cases z), rfl, fun _ => by rw [List.getD_eq_getElem?_getD, h1]; rfl⟩
    | succ i => simpa using r.at (i := i) (by simpa using h)
  | _, _, i, _, _, .mv h1 h2 h3 r, h => by
    cases i with
    | zero =>
      simp at h
      obtain ⟨rfl, rfl⟩ := h
      exact ⟨fun _ => h1, by simpa using h3, fun z => by cases z⟩
    | succ i => simpa using r.at (i := i) (by simpa using h)
theorem gl_mem {js : JS} {i : Nat} {q : Addr} (h : q ∈ gl fps js i) : ∃ j b, js[i]? = some (some (j, b)) ∧ q ∈ fps j := by
  unfold gl at h
  split at h
  · rename_i j b e; exact ⟨j, b, e, h⟩
  · cases h
theorem argG (r : Rel K c O F H σ fps ds) : ∀ {ps : List Kd} {js : JS} {vs : List V} {xs args : List D}, JOk O ps js → BgA K F σ js vs xs → fillG ds js xs = some args →
    vs.length = ps.length ∧ args.length = ps.length ∧ ∀ i d, args[i]? = some d → ∃ v, vs[i]? = some v ∧ Ow K F H (ps.getD i .sh) v d (gl fps js i)
  | _, _, _, _, _, .nil, .nil, e => by cases e; exact ⟨rfl, rfl, fun i d h => by simp at h⟩
  | _, _, _, _, args, .e (js := js) jo, .e (vs := vs) (ds := xs) (d := d0) (v := v0) dp al, e => by
    unfold fillG at e
    cases z : fillG ds js xs with
    | none => rw [z] at e; cases e
    | some rr =>
      rw [z] at e
      cases e
      obtain ⟨h1, h2, h3⟩ := argG r jo al z
      refine ⟨by simp [h1], by simp [h2], fun i d h => ?_⟩
      cases i with
      | zero => cases h; exact ⟨v0, rfl, rfl, dp⟩
      | succ i =>
        obtain ⟨v, hv, ow⟩ := h3 i d (by simpa using h)
        exact ⟨v, by simpa using hv, by simpa [gl] using ow⟩
  | _, _, _, _, args, .pm (j := j) (js := js) hp hk jo, .s (vs := vs) (ds := xs) (v := v0) hv0 al, e => by
    unfold fillG at e
    cases y : look ds j with
    | none => rw [y] at e; cases e
    | some d0 =>
    rw [y] at e
    cases z : fillG ds js xs with
    | none => rw [z] at e; cases e
    | some rr =>
      rw [z] at e
      cases e
      obtain ⟨h1, h2, h3⟩ := argG r jo al z
      refine ⟨by simp [h1], by simp [h2], fun i d h => ?_⟩
      cases i with
      | zero =>
        cases h
        obtain ⟨u, hu, ow⟩ := r.slots j d0 (look_some y)
        rw [hv0] at hu; cases hu
        rw [hk] at ow
        exact ⟨v0, rfl, ow⟩
      | succ i =>
        obtain ⟨v, hv, ow⟩ := h3 i d (by simpa using h)
        exact ⟨v, by simpa using hv, by simpa [gl] using ow⟩
  | _, _, _, _, args, .pp (j := j) (k := k0) (js := js) hp jo, .s (vs := vs) (ds := xs) (v := v0) hv0 al, e => by
    have hk : O.getD j .sh = .pm k0 := by rw [List.getD_eq_getElem?_getD, hp]; rfl
    unfold fillG at e
    cases y : look ds j with
    | none => rw [y] at e; cases e
    | some d0 =>
    rw [y] at e
    cases z : fillG ds js xs with
    | none => rw [z] at e; cases e
    | some rr =>
      rw [z] at e
      cases e
      obtain ⟨h1, h2, h3⟩ := argG r jo al z
      refine ⟨by simp [h1], by simp [h2], fun i d h => ?_⟩
      cases i with
      | zero =>
        cases h
        obtain ⟨u, hu, ow⟩ := r.slots j d0 (look_some y)
        rw [hv0] at hu; cases hu
        rw [hk] at ow
        exact ⟨v0, rfl, ow⟩
      | succ i =>
        obtain ⟨v, hv, ow⟩ := h3 i d (by simpa using h)
        exact ⟨v, by simpa using hv, by simpa [gl] using ow⟩
  | _, _, _, _, args, .mv (j := j) (js := js) hp hk _ jo, .s (vs := vs) (ds := xs) (v := v0) hv0 al, e => by
    unfold fillG at e
    cases y : look ds j with
    | none => rw [y] at e; cases e
    | some d0 =>
    rw [y] at e
    cases z : fillG ds js xs with
    | none => rw [z] at e; cases e
    | some rr =>
      rw [z] at e
      cases e
      obtain ⟨h1, h2, h3⟩ := argG r jo al z
      refine ⟨by simp [h1], by simp [h2], fun i d h => ?_⟩
      cases i with
      | zero =>
        cases h
        obtain ⟨u, hu, ow⟩ := r.slots j d0 (look_some y)
        rw [hv0] at hu; cases hu
        rw [hk] at ow
        exact ⟨v0, rfl, ow⟩
      | succ i =>
        obtain ⟨v, hv, ow⟩ := h3 i d (by simpa using h)
        exact ⟨v, by simpa using hv, by simpa [gl] using ow⟩
def fpG (js : JS) (gps' fps : Nat → List Addr) (j : Nat) : List Addr := match posG js j with
  | some (i, false) => gps' i
  | some (_, true) => []
  | none => fps j
theorem off_new (r : Rel K c O F H σ fps ds) {js : JS} (jo : JOk O ps js) {i j : Nat} {b : Bool} {q : Addr} (h : js[i]? = some (some (j, b))) (hb : b = true) (hq : q ∈ fps j) : c.H0 q = none := by
  rcases (r.off j q hq).2.2 with z | ⟨_, z⟩
  · exact z
  · rw [(jo.at h).1 hb] at z; cases z
end
def mCallG (f : FD) (js : JS) (ml : M (List D)) : M D := bnd ml fun xs => fun s => match fillG s js xs with
  | some args => match f args with
    | .ok d as => if as.length = js.length then .ok d (backG js as s) else .no
    | _ => .no
  | none => .no
section
variable {K : Fg} {c : Ctx} {O ps : List Kd} {rk : Kd} {js : JS} {tl : TA} {ml : M (List D)} {mg : Str → Option Value} {f : FD} {E : XK}
end
end Z
set_option Elab.async false
set_option linter.all false
set_option maxRecDepth 100000
namespace Z
open PySem L2
def tcs : List Kd → Kd
  | [] => .te
  | k :: r => .tc k (tcs r)
def glo (fps : Nat → List Addr) : Option (Nat × Bool) → List Addr
  | some (j, _) => fps j
  | none => []
def allMv : JS → Bool
  | [] => true
  | some (_, false) :: _ => false
  | _ :: r => allMv r
theorem allMv_at : ∀ {js : JS} {i j : Nat} {b : Bool}, allMv js = true → js[i]? = some (some (j, b)) → b = true
  | [], i, j, b, _, h => by simp at h
  | none :: js, i, j, b, a, h => by
    cases i with
    | zero => simp at h
    | succ i => exact allMv_at (js := js) a (by simpa using h)
  | some (l, false) :: js, i, j, b, a, h => by cases a
  | some (l, true) :: js, i, j, b, a, h => by
    cases i with
    | zero => simp at h; exact h.2
    | succ i => exact allMv_at (js := js) a (by simpa using h)
section
variable {K : Fg} {c : Ctx} {O ks : List Kd} {F H F' H' : Hp} {σ : St} {fps gps' : Nat → List Addr} {ds : DS}
theorem t_of : ∀ {ks : List Kd} {vs : List V} {args : List D} {fs : List (List Addr)}, vs.length = ks.length → args.length = ks.length → fs.length = ks.length →
    (∀ i d, args[i]? = some d → ∃ v, vs[i]? = some v ∧ Ow K F H (ks.getD i .sh) v d (fs.getD i [])) → (Ow2 K F H (tcs ks)).t vs args fs
  | [], [], [], [], _, _, _, _ => ⟨rfl, rfl, rfl⟩
  | k :: ks, v :: vs, a :: as, f :: fs, h1, h2, h3, h => by
    obtain ⟨v', hv, ow⟩ := h 0 a rfl
    cases hv
    refine ⟨v, a, f, vs, as, fs, rfl, rfl, rfl, ow, t_of (by simpa using h1) (by simpa using h2) (by simpa using h3) fun i d hd => ?_⟩
    obtain ⟨w, hw, o⟩ := h (i + 1) d (by simpa using hd)
    exact ⟨w, by simpa using hw, by simpa using o⟩
theorem t_in : ∀ {ks : List Kd} {vs : List V} {args : List D} {fs : List (List Addr)}, (Ow2 K F H (tcs ks)).t vs args fs → vs.length = ks.length ∧ args.length = ks.length ∧ fs.length = ks.length
  | [], _, _, _, ⟨h1, h2, h3⟩ => by subst h1 h2 h3; exact ⟨rfl, rfl, rfl⟩
  | k :: ks, _, _, _, h => by
    obtain ⟨x, d, f, xr, dr, fr, rfl, rfl, rfl, _, h2⟩ := h
    obtain ⟨a, b, c⟩ := t_in h2
    exact ⟨by simp [a], by simp [b], by simp [c]⟩
theorem tcs_ow {ks : List Kd} {v : V} {d : D} {fp : List Addr} : Ow K F H (tcs ks) v d fp = TpO H (Ow2 K F H (tcs ks)).t v d fp := by
  cases ks <;> rfl
theorem glo_gl (js : JS) (i : Nat) : (js.map (glo fps)).getD i [] = gl fps js i := by
  unfold gl
  rw [List.getD_eq_getElem?_getD, List.getElem?_map]
  cases z : js[i]? with
  | none => rfl
  | some o =>
    cases o with
    | none => rfl
    | some p => rfl
theorem glo_mem {js : JS} {q : Addr} (h : q ∈ (js.map (glo fps)).flatten) : ∃ i, q ∈ gl fps js i := by
  obtain ⟨l, hl, hq⟩ := List.mem_flatten.mp h
  obtain ⟨i, hi⟩ := List.mem_iff_getElem?.mp hl
  refine ⟨i, ?_⟩
  rw [← glo_gl, List.getD_eq_getElem?_getD, hi]
  exact hq
theorem glo_nd (r : Rel K c O F H σ fps ds) : ∀ {js : JS}, (slG js).Nodup → (js.map (glo fps)).flatten.Nodup
  | [], _ => by simp
  | none :: js, nd => by
    have := glo_nd r (js := js) (by simpa [slG] using nd)
    simpa [glo] using this
  | some (j, b) :: js, nd => by
    have nd' : j ∉ slG js ∧ (slG js).Nodup := by simpa [slG] using nd
    rw [List.map_cons, List.flatten_cons, List.nodup_append]
    refine ⟨r.nd j, glo_nd r nd'.2, fun q hq q' hq' e => ?_⟩
    subst e
    obtain ⟨i, hi⟩ := glo_mem hq'
    obtain ⟨j', b', e1, hq2⟩ := gl_mem hi
    by_cases z : j = j'
    · subst z; exact nd'.1 (slG_mem e1)
    · exact r.dj j j' z q hq hq2
theorem Rel.moveG (r : Rel K c O F H σ fps ds) {js : JS} {xs : List D} (nd : (slG js).Nodup) (hl : xs.length = js.length) (am : allMv js = true) : Rel K c O F H σ (fpG js (fun _ => []) fps) (backG js xs ds) := by
  have hin : ∀ j q, q ∈ fpG js (fun _ => []) fps j → q ∈ fps j ∧ posG js j = none := fun j q hq => by
    unfold fpG at hq
    split at hq
    · cases hq
    · cases hq
    · rename_i h; exact ⟨hq, h⟩
  refine ⟨r.sub, r.base, r.keep, r.live, r.new, fun j x hx => ?_, fun j q hq => r.off j q (hin j q hq).1, fun j => ?_, fun j l hjl q hq hq' => r.dj j l hjl q (hin j q hq).1 (hin l q hq').1, r.par, by rw [backG_len]; exact r.len⟩
  · cases z : posG js j with
    | none =>
      rw [backG_out js _ _ j z] at hx
      have : fpG js (fun _ => []) fps j = fps j := by unfold fpG; rw [z]
      rw [this]
      exact r.slots j x hx
    | some p =>
      obtain ⟨i, b⟩ := p
      have hat := posG_some z
      have hj : j < ds.length := by rw [← backG_len js xs ds]; exact (List.getElem?_eq_some_iff.mp hx).1
      rw [backG_in nd hl hj hat, allMv_at am hat] at hx
      cases hx
  · unfold fpG
    split
    · exact List.nodup_nil
    · exact List.nodup_nil
    · exact r.nd j
end
def mTupG (js : JS) (ml : M (List D)) : M D := bnd ml fun xs => fun s => match fillG s js xs with
  | some args => if fits args.length then .ok (.tuple args) (backG js xs s) else .no
  | none => .no
section
variable {K : Fg} {c : Ctx} {O ks : List Kd} {js : JS} {tl : TA} {ml : M (List D)}
theorem bgA_len {F : Hp} {σ : St} : ∀ {js : JS} {vs : List V} {xs : List D}, BgA K F σ js vs xs → xs.length = js.length
  | _, _, _, .nil => rfl
  | _, _, _, .e _ r => by simp [bgA_len r]
  | _, _, _, .s _ r => by simp [bgA_len r]
theorem o_tupG (h : DAG K c O js tl ml) (jo : JOk O ks js) (am : allMv js = true := by rfl) (nd : (slG js).Nodup := by decide) : DO K c O (tcs ks) (tTup tl) (mTupG js ml) := ⟨fun {F H σ fps ds ds' d} r e Q q => by
  obtain ⟨xs, s1, e1, g1⟩ := bnd_ok e
  split at g1
  · rename_i args ha
    split at g1
    · rename_i hfit
      cases g1
      refine h.run r e1 _ fun F1 H1 fps1 vs sF r1 al => ?_
      obtain ⟨l1, l2, ow⟩ := argG r1 jo al ha
      refine ⟨by rw [l1, ← l2]; exact of_decide_eq_true hfit, fun p hp => ?_⟩
      have rm := r1.moveG nd (bgA_len al) am
      obtain ⟨p1, p2, p3⟩ := r1.fresh hp
      have hfl : ∀ q ∈ (js.map (glo fps1)).flatten, F1 q = none ∧ H1 q ≠ none ∧ c.H0 q = none ∧ ∀ i, q ∉ fpG js (fun _ => []) fps1 i := fun q hq => by
        obtain ⟨i, hi⟩ := glo_mem hq
        obtain ⟨j, b, e2, hq2⟩ := gl_mem hi
        refine ⟨(r1.off j q hq2).1, (r1.off j q hq2).2.1, off_new r1 jo e2 (allMv_at am e2) hq2, fun l hl => ?_⟩
        unfold fpG at hl
        split at hl
        · cases hl
        · cases hl
        · rename_i hn
          by_cases z : l = j
          · subst z; exact posG_none hn e2
          · exact r1.dj l j z q hl hq2
      have hne : ∀ q ∈ (js.map (glo fps1)).flatten, q ≠ p := fun q hq z => by subst z; exact (hfl q hq).2.1 hp
      refine q F1 _ _ _ (p :: (js.map (glo fps1)).flatten) sF (rm.allocO hp _) ?_ (fun q hq => ?_) ?_
      · rw [tcs_ow]
        refine ⟨p, vs, args, js.map (glo fps1), rfl, rfl, upd_same, rfl, t_of l1 l2 (by rw [List.length_map]; exact jo.len) fun i d hd => ?_⟩
        obtain ⟨v, hv, o⟩ := ow i d hd
        rw [glo_gl]
        refine ⟨v, hv, ow_mono (Same.refl _) o fun q hq => upd_ne fun z => ?_⟩
        subst z
        obtain ⟨j, b, e2, hq2⟩ := gl_mem hq
        exact p3 j hq2
      · rcases List.mem_cons.mp hq with rfl | hq
        · exact ⟨p1, by rw [upd_same]; simp, p2, fun i hi => by
            unfold fpG at hi
            split at hi
            · cases hi
            · cases hi
            · exact p3 i hi⟩
        · rw [upd_ne (hne q hq)]
          exact hfl q hq
      · exact List.nodup_cons.mpr ⟨fun z => hne p z rfl, glo_nd r1 nd⟩
    · cases g1
  · cases g1⟩
end
def gNm : List Nat → TGs
  | [] => gNil
  | i :: is => gCons (gName i) (gNm is)
def setsD : List Nat → List D → DS → DS
  | i :: is, d :: r, s => setsD is r (s.set i (some d))
  | _, _, s => s
def setsK : List Nat → List Kd → List Kd → List Kd
  | i :: is, k :: r, O => setsK is r (O.set i k)
  | _, _, O => O
def sAsgT (is : List Nat) (m : M D) : MS := fun s => match m s with
  | .ok (.tuple xs) s' => if xs.length = is.length then .nx (setsD is xs s') else .no
  | _ => .no
section
variable {K : Fg} {c : Ctx} {Ob : List Kd} {F H : Hp}
theorem gNm_ok {Q : St → Hp → Prop} : ∀ {is : List Nat} {ks : List Kd} {O : List Kd} {vs : List V} {xs : List D} {fs : List (List Addr)} {σ : St} {fps : Nat → List Addr} {ds : DS}, Rel K c O F H σ fps ds → (Ow2 K F H (tcs ks)).t vs xs fs → is.length = ks.length →
    (∀ i ∈ is, i < O.length ∧ isPm O[i]? = false) → (∀ k ∈ ks, isPm (some k) = false) → (∀ q ∈ fs.flatten, F q = none ∧ H q ≠ none ∧ c.H0 q = none ∧ ∀ i, q ∉ fps i) → fs.flatten.Nodup →
    (∀ σ' fps', Rel K c (setsK is ks O) F H σ' fps' (setsD is xs ds) → Q σ' H) → gNm is vs σ H Q
  | [], [], O, _, _, _, σ, fps, ds, r, ⟨h1, h2, h3⟩, _, _, _, _, _, q => by
    subst h1 h2 h3
    exact ⟨rfl, q σ fps r⟩
  | i :: is, k :: ks, O, _, _, _, σ, fps, ds, r, h, hl, hi, hk, hf, nd, q => by
    obtain ⟨x, d, f, xr, dr, fr, rfl, rfl, rfl, h1, h2⟩ := h
    rw [List.flatten_cons] at nd hf
    obtain ⟨nd1, nd2, nd3⟩ := List.nodup_append.mp nd
    obtain ⟨hi1, hi2⟩ := hi i (by simp)
    have r1 := r.put hi1 hi2 h1 (fun q hq => by
      obtain ⟨a, b, cc, dd⟩ := hf q (List.mem_append_left _ hq)
      exact ⟨a, b, cc, fun j _ => dd j⟩) nd1
    refine ⟨x, xr, rfl, gNm_ok r1 h2 (by simpa using hl) (fun j hj => ?_) (fun k' hk' => hk k' (by simp [hk'])) (fun q hq => ?_) nd2 q⟩
    · obtain ⟨a, b⟩ := hi j (by simp [hj])
      refine ⟨by rw [List.length_set]; exact a, ?_⟩
      by_cases z : j = i
      · subst z; rw [List.getElem?_set_self a]; exact hk k (by simp)
      · rw [List.getElem?_set_ne (Ne.symm z)]; exact b
    · obtain ⟨a, b, cc, dd⟩ := hf q (List.mem_append_right _ hq)
      refine ⟨a, b, cc, fun j hj => ?_⟩
      by_cases z : j = i
      · simp only [if_pos z] at hj; exact nd3 q hj q hq rfl
      · simp only [if_neg z] at hj; exact dd j hj
theorem c_asgT {O : List Kd} {te : TE} {m : M D} {n : Nat} (is : List Nat) {ks : List Kd} (h : DO K c O (tcs ks) te m) (hn : n = is.length) (hl : is.length = ks.length := by rfl) (hi : ∀ i ∈ is, i < O.length ∧ isPm O[i]? = false) (hk : ∀ k ∈ ks, isPm (some k) = false) : DC K c Ob O (tAsg te (gTup K n (gNm is))) (sAsgT is m) (setsK is ks O) := ⟨fun {F H σ fps ds} r E p => by
  unfold sAsgT at p
  cases e : m ds with
  | no => rw [e] at p; exact p.elim
  | ok d s' =>
    rw [e] at p
    refine h.run r e _ fun F1 H1 fps1 w fpv s1 r1 ow hf nd => ?_
    rw [tcs_ow] at ow
    obtain ⟨a, xs, es, fs, rfl, rfl, ha, rfl, ht⟩ := ow
    dsimp only at p
    by_cases hz : es.length = is.length
    · rw [if_pos hz] at p
      obtain ⟨l1, l2, l3⟩ := t_in ht
      refine ⟨a, xs, rfl, .inl (.inl ha), by rw [l1, ← hl, hn], gNm_ok r1 ht hl hi hk (fun q hq => hf q (List.mem_cons_of_mem _ hq)) (List.nodup_cons.mp nd).2 fun σ2 fps2 r2 => p F1 H1 σ2 fps2 s1 r2⟩
    · rw [if_neg hz] at p; exact p.elim⟩
def sRetM (i : Nat) : MS := fun s => match s[i]? with
  | some (some d) => .rt d (s.set i (some .none))
  | _ => .no
end
section
variable {s : DS} {Nx Bk Ct : DS → Prop} {Ex : Xc → DS → Prop} {Rt : D → DS → Prop}
theorem ev_at_0 {j : Nat} {Q : D → DS → Prop} : Ev0 (mAt j) s Q = So0 (look s j) fun _ => Q .none s := by
  unfold Ev0 mAt look
  cases s[j]? with
  | none => rfl
  | some o => cases o <;> rfl
theorem ev_at {j : Nat} {Q : D → DS → Prop} : Ev (mAt j) s Q = So (look s j) fun _ => Q .none s := by with_unfolding_all exact ev_at_0
theorem xv_callG_0 {f : FD} {js : JS} {a : M (List D)} {Q : D → DS → Prop} : Ev0 (mCallG f js a) s Q = Ev0 a s fun xs s' => So0 (fillG s' js xs) fun args => Cl0 f args fun d as => as.length = js.length ∧ Q d (backG js as s') := by
  unfold mCallG; rw [ev_bnd_0]; refine ev_ext_0 fun xs s' => ?_
  dsimp only [Ev0]
  cases fillG s' js xs with
  | none => rfl
  | some args =>
    dsimp only [So0, Cl0]
    cases f args with
    | no => simp
    | ex x as => simp
    | ok d as =>
      refine propext ⟨fun h => ?_, fun ⟨d1, as1, e, h1, h2⟩ => ?_⟩
      · dsimp only at h
        by_cases z : as.length = js.length
        · rw [if_pos z] at h; exact ⟨d, as, rfl, z, h⟩
        · rw [if_neg z] at h; exact h.elim
      · cases e
        dsimp only
        rw [if_pos h1]; exact h2
theorem xv_callG {f : FD} {js : JS} {a : M (List D)} {Q : D → DS → Prop} : Ev (mCallG f js a) s Q = Ev a s fun xs s' => So (fillG s' js xs) fun args => Cl f args fun d as => as.length = js.length ∧ Q d (backG js as s') := by with_unfolding_all exact xv_callG_0
theorem xv_tupG_0 {js : JS} {a : M (List D)} {Q : D → DS → Prop} : Ev0 (mTupG js a) s Q = Ev0 a s fun xs s' => So0 (fillG s' js xs) fun args => fits args.length = true ∧ Q (.tuple args) (backG js xs s') := by
  unfold mTupG; rw [ev_bnd_0]; refine ev_ext_0 fun xs s' => ?_
  dsimp only [Ev0]
  cases fillG s' js xs with
  | none => rfl
  | some args =>
    dsimp only [So0]
    cases z : fits args.length <;> simp
theorem xv_tupG {js : JS} {a : M (List D)} {Q : D → DS → Prop} : Ev (mTupG js a) s Q = Ev a s fun xs s' => So (fillG s' js xs) fun args => fits args.length = true ∧ Q (.tuple args) (backG js xs s') := by with_unfolding_all exact xv_tupG_0
def tof : D → Option (List D)
  | .tuple xs => some xs
  | _ => none
theorem so_tof {xs : List D} {Q : List D → Prop} : So (tof (.tuple xs)) Q = Q xs := by with_unfolding_all rfl
theorem run_asgT_0 {is : List Nat} {m : M D} : Run0 (sAsgT is m) s Nx Rt Bk Ct Ex = Ev0 m s fun d s' => So0 (tof d) fun xs => xs.length = is.length ∧ Nx (setsD is xs s') := by
  unfold Run0 sAsgT Ev0
  cases m s with
  | no => rfl
  | ok d s' =>
    cases d with
    | tuple xs =>
      dsimp only [tof, So0]
      by_cases h : xs.length = is.length
      · rw [if_pos h]; simp [h]
      · rw [if_neg h]; simp [h]
    | _ => rfl
theorem run_asgT {is : List Nat} {m : M D} : Run (sAsgT is m) s Nx Rt Bk Ct Ex = Ev m s fun d s' => So (tof d) fun xs => xs.length = is.length ∧ Nx (setsD is xs s') := by with_unfolding_all exact run_asgT_0
theorem run_retM_0 {i : Nat} : Run0 (sRetM i) s Nx Rt Bk Ct Ex = So0 (look s i) fun d => Rt d (s.set i (some .none)) := by
  unfold Run0 sRetM look
  cases s[i]? with
  | none => rfl
  | some o => cases o <;> rfl
theorem run_retM {i : Nat} : Run (sRetM i) s Nx Rt Bk Ct Ex = So (look s i) fun d => Rt d (s.set i (some .none)) := by with_unfolding_all exact run_retM_0
theorem so_fillN {Q : List D → Prop} : So (fillG s [] []) Q = Q [] := by with_unfolding_all rfl
theorem so_fillE_0 {js : JS} {x : D} {xs : List D} {Q : List D → Prop} : So0 (fillG s (none :: js) (x :: xs)) Q = So0 (fillG s js xs) fun r => Q (x :: r) := by
  show So0 (match fillG s js xs with | some r => some (x :: r) | none => none) Q = _
  cases fillG s js xs <;> rfl
theorem so_fillE {js : JS} {x : D} {xs : List D} {Q : List D → Prop} : So (fillG s (none :: js) (x :: xs)) Q = So (fillG s js xs) fun r => Q (x :: r) := by with_unfolding_all exact so_fillE_0
theorem so_fillS_0 {js : JS} {j : Nat} {b : Bool} {x : D} {xs : List D} {Q : List D → Prop} : So0 (fillG s (some (j, b) :: js) (x :: xs)) Q = So0 (look s j) fun d => So0 (fillG s js xs) fun r => Q (d :: r) := by
  show So0 (match look s j with | some d => (match fillG s js xs with | some r => some (d :: r) | none => none) | none => none) Q = _
  cases look s j with
  | none => rfl
  | some d => cases fillG s js xs <;> rfl
theorem so_fillS {js : JS} {j : Nat} {b : Bool} {x : D} {xs : List D} {Q : List D → Prop} : So (fillG s (some (j, b) :: js) (x :: xs)) Q = So (look s j) fun d => So (fillG s js xs) fun r => Q (d :: r) := by with_unfolding_all exact so_fillS_0
theorem bkG0 : backG [] [] s = s := nr rfl
theorem bkGE {js : JS} {a : D} {as : List D} : backG (none :: js) (a :: as) s = backG js as s := nr rfl
theorem bkGF {js : JS} {j : Nat} {a : D} {as : List D} : backG (some (j, false) :: js) (a :: as) s = backG js as (s.set j (some a)) := nr rfl
theorem bkGT {js : JS} {j : Nat} {a : D} {as : List D} : backG (some (j, true) :: js) (a :: as) s = backG js as (s.set j none) := nr rfl
theorem stD0 {xs : List D} : setsD [] xs s = s := nr rfl
theorem stDC {i : Nat} {is : List Nat} {d : D} {xs : List D} : setsD (i :: is) (d :: xs) s = setsD is xs (s.set i (some d)) := nr rfl
end
end Z
set_option Elab.async false
set_option linter.all false
set_option maxRecDepth 100000
namespace Z
open PySem L2
def putDF (f : Str) (x : D) : List (D × D) → List (D × D)
  | [] => [(.str f, x)]
  | (.str g, d) :: r => if g = f then (.str g, x) :: r else (.str g, d) :: putDF f x r
  | e :: r => e :: putDF f x r
theorem FlO.len {R : Str → OwR} : ∀ {vs : List (Str × V)} {ds : List (D × D)} {fs : List (List Addr)}, FlO R vs ds fs → vs.length = ds.length
  | _, _, _, .nil => rfl
  | _, _, _, .cons _ r => by simp [r.len]
theorem FlO.none {R : Str → OwR} {f : Str} : ∀ {vs : List (Str × V)} {ds : List (D × D)} {fs : List (List Addr)}, FlO R vs ds fs → fldD f ds = none → vs.lookup f = none
  | _, _, _, .nil, _ => rfl
  | _, _, _, .cons (f := g) (v := v) h r, e => by
    unfold fldD at e
    by_cases z : f = g
    · rw [if_pos z] at e; cases e
    · rw [if_neg z] at e
      rw [List.lookup_cons]
      have : (f == g) = false := by simpa using z
      rw [this]
      exact r.none e
theorem FlO.put {R : Str → OwR} {f : Str} {v : V} {x : D} (hv : R f v x []) (hR : ∀ v d fp, R f v d fp → fp = []) : ∀ {vs : List (Str × V)} {ds : List (D × D)} {fs : List (List Addr)}, FlO R vs ds fs → ∃ fs', FlO R (putF f v vs) (putDF f x ds) fs' ∧ fs'.flatten = fs.flatten
  | _, _, _, .nil => ⟨[[]], .cons hv .nil, rfl⟩
  | _, _, _, .cons (f := g) (v := w) (d := d) (fp := fp) (vs := vs) (ds := ds) (fs := fs) h r => by
    by_cases z : g = f
    · subst z
      have e1 : putF g v ((g, w) :: vs) = (g, v) :: vs := if_pos rfl
      have e2 : putDF g x ((.str g, d) :: ds) = (.str g, x) :: ds := if_pos rfl
      rw [e1, e2]
      refine ⟨[] :: fs, .cons hv r, ?_⟩
      rw [hR _ _ _ h]
    · have e1 : putF f v ((g, w) :: vs) = (g, w) :: putF f v vs := if_neg z
      have e2 : putDF f x ((.str g, d) :: ds) = (.str g, d) :: putDF f x ds := if_neg z
      rw [e1, e2]
      obtain ⟨fs', h1, h2⟩ := FlO.put hv hR r
      exact ⟨fp :: fs', .cons h h1, by rw [List.flatten_cons, List.flatten_cons, h2]⟩
def dof : D → Option (List (D × D))
  | .dict l => some l
  | _ => none
def mFld (i : Nat) (f : Str) : M D := fun s => match look s i with
  | some d => match dof d with
    | some l => opt (fldD f l) s
    | none => .no
  | none => .no
def sFldD (i : Nat) (f : Str) (m : M D) : MS := fun s => match m s with
  | .ok x s1 => match look s1 i with
    | some d => match dof d with
      | some l => if decide (l.length ≤ 1000) then .nx (s1.set i (some (.dict (putDF f x l)))) else .no
      | none => .no
    | none => .no
  | .no => .no
section
variable {K : Fg} {c : Ctx} {O Ob : List Kd} {te : TE} {m : M D}
end
def noFd (m : Str) (d : D) : Option Unit := match dof d with
  | some l => match fldD m l with
    | none => some ()
    | some _ => none
  | none => none
def mMeth (f : FD) (m : Str) (n j : Nat) (ml : M (List D)) : M D := fun s => match look s j with
  | some e => match noFd m e with
    | some _ => mCall1 f n j ml s
    | none => .no
  | none => .no
def mMake (f : FD) (cls : Str) (n : Nat) (ml : M (List D)) : M D := bnd ml fun xs => fun s => if xs.length = n then (match f (.dict [(.none, .str cls)] :: xs) with
  | .ok .none (e' :: _) => .ok e' s
  | _ => .no) else .no
section
variable {K : Fg} {c : Ctx} {O ps : List Kd} {rk k : Kd} {tl : TA} {ml : M (List D)} {mg : Str → Option Value} {f : FD} {E : XK}
end
section
variable {s : DS} {Nx Bk Ct : DS → Prop} {Ex : Xc → DS → Prop} {Rt : D → DS → Prop}
theorem ev_fld_0 {i : Nat} {f : Str} {Q : D → DS → Prop} : Ev0 (mFld i f) s Q = So0 (look s i) fun d => So0 (dof d) fun l => So0 (fldD f l) fun x => Q x s := by
  unfold Ev0 mFld
  cases look s i with
  | none => rfl
  | some d =>
    dsimp only [So0]
    cases dof d with
    | none => rfl
    | some l =>
      dsimp only [opt]
      cases fldD f l <;> rfl
theorem ev_fld {i : Nat} {f : Str} {Q : D → DS → Prop} : Ev (mFld i f) s Q = So (look s i) fun d => So (dof d) fun l => So (fldD f l) fun x => Q x s := by with_unfolding_all exact ev_fld_0
theorem run_fld_0 {i : Nat} {f : Str} {m : M D} : Run0 (sFldD i f m) s Nx Rt Bk Ct Ex = Ev0 m s fun x s1 => So0 (look s1 i) fun d => So0 (dof d) fun l => decide (l.length ≤ 1000) = true ∧ Nx (s1.set i (some (.dict (putDF f x l)))) := by
  unfold Run0 sFldD Ev0
  cases m s with
  | no => rfl
  | ok x s1 =>
    dsimp only
    cases look s1 i with
    | none => rfl
    | some d =>
      dsimp only [So0]
      cases dof d with
      | none => rfl
      | some l =>
        dsimp only
        cases z : decide (l.length ≤ 1000) <;> simp
theorem run_fld {i : Nat} {f : Str} {m : M D} : Run (sFldD i f m) s Nx Rt Bk Ct Ex = Ev m s fun x s1 => So (look s1 i) fun d => So (dof d) fun l => decide (l.length ≤ 1000) = true ∧ Nx (s1.set i (some (.dict (putDF f x l)))) := by with_unfolding_all exact run_fld_0
theorem xv_meth_0 {f : FD} {m : Str} {n j : Nat} {a : M (List D)} {Q : D → DS → Prop} : Ev0 (mMeth f m n j a) s Q = So0 (look s j) fun e => So0 (noFd m e) fun _ => Ev0 (mCall1 f n j a) s Q := by
  unfold Ev0 mMeth
  cases look s j with
  | none => rfl
  | some e =>
    dsimp only [So0]
    cases noFd m e <;> rfl
theorem xv_meth {f : FD} {m : Str} {n j : Nat} {a : M (List D)} {Q : D → DS → Prop} : Ev (mMeth f m n j a) s Q = So (look s j) fun e => So (noFd m e) fun _ => Ev (mCall1 f n j a) s Q := by with_unfolding_all exact xv_meth_0
def nonO : D → Option Unit
  | .none => some ()
  | _ => none
theorem so_nonO {Q : Unit → Prop} : So (nonO .none) Q = Q () := by with_unfolding_all rfl
theorem xv_make_0 {f : FD} {cls : Str} {n : Nat} {a : M (List D)} {Q : D → DS → Prop} : Ev0 (mMake f cls n a) s Q = Ev0 a s fun xs s' => xs.length = n ∧ Cl0 f (.dict [(.none, .str cls)] :: xs) fun d as => So0 (nonO d) fun _ => So0 (hdO as) fun e' => Q e' s' := by
  unfold mMake; rw [ev_bnd_0]; refine ev_ext_0 fun xs s' => ?_
  dsimp only [Ev0]
  by_cases h : xs.length = n
  · rw [if_pos h]
    refine propext ⟨fun z => ?_, fun z => ?_⟩
    · cases e : f (.dict [(.none, .str cls)] :: xs) with
      | no => rw [e] at z; exact z.elim
      | ex x as => rw [e] at z; exact z.elim
      | ok d as =>
        rw [e] at z
        cases d with
        | none =>
          cases as with
          | nil => exact z.elim
          | cons e' as => exact ⟨h, _, _, e, z⟩
        | _ => exact z.elim
    · obtain ⟨_, d, as, e, z⟩ := z
      rw [e]
      cases d with
      | none =>
        cases as with
        | nil => exact z.elim
        | cons e' as => exact z
      | _ => exact z.elim
  · rw [if_neg h]; simp [h]
theorem xv_make {f : FD} {cls : Str} {n : Nat} {a : M (List D)} {Q : D → DS → Prop} : Ev (mMake f cls n a) s Q = Ev a s fun xs s' => xs.length = n ∧ Cl f (.dict [(.none, .str cls)] :: xs) fun d as => So (nonO d) fun _ => So (hdO as) fun e' => Q e' s' := by with_unfolding_all exact xv_make_0
theorem so_dof {l : List (D × D)} {Q : List (D × D) → Prop} : So (dof (.dict l)) Q = Q l := by with_unfolding_all rfl
theorem so_noFd_0 {m : Str} {l : List (D × D)} {Q : Unit → Prop} (h : fldD m l = none) : So0 (noFd m (.dict l)) Q = Q () := by
  unfold noFd; dsimp only [dof]; rw [h]; rfl
theorem so_noFd {m : Str} {l : List (D × D)} {Q : Unit → Prop} (h : fldD m l = none) : So (noFd m (.dict l)) Q = Q () := by with_unfolding_all exact so_noFd_0 h
theorem fdN {f : Str} : fldD f [] = none := nr rfl
theorem fdC {f : Str} {x : D} {l : List (D × D)} : fldD f ((.none, x) :: l) = fldD f l := nr rfl
theorem fdE {f : Str} {x : D} {l : List (D × D)} : fldD f ((.str f, x) :: l) = some x := if_pos rfl
theorem fdO {f g : Str} {x : D} {l : List (D × D)} (h : (f = g) = False) : fldD f ((.str g, x) :: l) = fldD f l := if_neg (by rw [h]; exact id)
theorem ptN {f : Str} {y : D} : putDF f y [] = [(.str f, y)] := nr rfl
theorem ptC {f : Str} {x y : D} {l : List (D × D)} : putDF f y ((.none, x) :: l) = (.none, x) :: putDF f y l := nr rfl
theorem ptE {f : Str} {x y : D} {l : List (D × D)} : putDF f y ((.str f, x) :: l) = (.str f, y) :: l := if_pos rfl
theorem ptO {f g : Str} {x y : D} {l : List (D × D)} (h : (g = f) = False) : putDF f y ((.str g, x) :: l) = (.str g, x) :: putDF f y l := if_neg (by rw [h]; exact id)
end
end Z
set_option Elab.async false
set_option linter.all false
set_option maxRecDepth 100000
namespace Z
open PySem L2
abbrev FnQ (K : Fg) (x y : Str) (st : Stmt) (f : Addr) (fd : FuncData) : Prop := FunD K x y (defArgs st) (defBody st) (defScope st) [] [] f fd
def mMove (i : Nat) : M D := fun s => match s[i]? with
  | some (some d) => .ok d (s.set i none)
  | _ => .no
theorem ev_move_0 {s : DS} {i : Nat} {Q : D → DS → Prop} : Ev0 (mMove i) s Q = So0 (look s i) fun d => Q d (s.set i none) := by
  unfold Ev0 mMove look
  cases s[i]? with
  | none => rfl
  | some o => cases o <;> rfl
theorem ev_move {s : DS} {i : Nat} {Q : D → DS → Prop} : Ev (mMove i) s Q = So (look s i) fun d => Q d (s.set i none) := by with_unfolding_all exact ev_move_0
end Z
set_option Elab.async false
set_option linter.all false
set_option maxRecDepth 100000
namespace Z
open PySem L2
theorem map_inj {α β : Type} {f : α → β} (hf : ∀ a b, f a = f b → a = b) : ∀ {l l' : List α}, l.map f = l'.map f → l = l'
  | [], [], _ => rfl
  | [], _ :: _, h => by cases h
  | _ :: _, [], h => by cases h
  | a :: l, b :: l', h => by
    rw [List.map_cons, List.map_cons] at h
    injection h with h1 h2
    rw [hf a b h1, map_inj hf h2]
theorem strE {a b : String} : (Str.ofString a = Str.ofString b) = (a = b) := propext ⟨fun h => by
  rw [Str.ofString_eq_toList, Str.ofString_eq_toList] at h
  injection h with h
  have h2 : a.toList.map Char.toNat = b.toList.map Char.toNat := by simpa using h
  have h3 : a.toList = b.toList := map_inj (fun x y e => Char.toNat_inj.mp e) h2
  exact String.toList_inj.mp h3, fun h => by rw [h]⟩
theorem nm_ahead_end : (Str.ofString "ahead" = Str.ofString "end") = False := by rw [strE]; exact eq_false (by decide)
theorem nm_ahead_ended : (Str.ofString "ahead" = Str.ofString "ended") = False := by rw [strE]; exact eq_false (by decide)
theorem nm_ahead_figures : (Str.ofString "ahead" = Str.ofString "figures") = False := by rw [strE]; exact eq_false (by decide)
theorem nm_ahead_is_figure : (Str.ofString "ahead" = Str.ofString "is_figure") = False := by rw [strE]; exact eq_false (by decide)
theorem nm_ahead_kind : (Str.ofString "ahead" = Str.ofString "kind") = False := by rw [strE]; exact eq_false (by decide)
theorem nm_ahead_last : (Str.ofString "ahead" = Str.ofString "last") = False := by rw [strE]; exact eq_false (by decide)
theorem nm_ahead_parted : (Str.ofString "ahead" = Str.ofString "parted") = False := by rw [strE]; exact eq_false (by decide)
theorem nm_ahead_put : (Str.ofString "ahead" = Str.ofString "put") = False := by rw [strE]; exact eq_false (by decide)
theorem nm_ahead_told : (Str.ofString "ahead" = Str.ofString "told") = False := by rw [strE]; exact eq_false (by decide)
theorem nm_ask_cell_kind : (Str.ofString "ask_cell" = Str.ofString "kind") = False := by rw [strE]; exact eq_false (by decide)
theorem nm_ask_cell_looks : (Str.ofString "ask_cell" = Str.ofString "looks") = False := by rw [strE]; exact eq_false (by decide)
theorem nm_ask_cell_sight : (Str.ofString "ask_cell" = Str.ofString "sight") = False := by rw [strE]; exact eq_false (by decide)
theorem nm_ask_cell_table : (Str.ofString "ask_cell" = Str.ofString "table") = False := by rw [strE]; exact eq_false (by decide)
theorem nm_base_below : (Str.ofString "base" = Str.ofString "below") = False := by rw [strE]; exact eq_false (by decide)
theorem nm_base_held : (Str.ofString "base" = Str.ofString "held") = False := by rw [strE]; exact eq_false (by decide)
theorem nm_base_put : (Str.ofString "base" = Str.ofString "put") = False := by rw [strE]; exact eq_false (by decide)
theorem nm_base_under : (Str.ofString "base" = Str.ofString "under") = False := by rw [strE]; exact eq_false (by decide)
theorem nm_base_upper : (Str.ofString "base" = Str.ofString "upper") = False := by rw [strE]; exact eq_false (by decide)
theorem nm_begin_done : (Str.ofString "begin" = Str.ofString "done") = False := by rw [strE]; exact eq_false (by decide)
theorem nm_begin_figures : (Str.ofString "begin" = Str.ofString "figures") = False := by rw [strE]; exact eq_false (by decide)
theorem nm_begin_great : (Str.ofString "begin" = Str.ofString "great") = False := by rw [strE]; exact eq_false (by decide)
theorem nm_begin_kind : (Str.ofString "begin" = Str.ofString "kind") = False := by rw [strE]; exact eq_false (by decide)
theorem nm_begin_left : (Str.ofString "begin" = Str.ofString "left") = False := by rw [strE]; exact eq_false (by decide)
theorem nm_begin_looks : (Str.ofString "begin" = Str.ofString "looks") = False := by rw [strE]; exact eq_false (by decide)
theorem nm_begin_numbers : (Str.ofString "begin" = Str.ofString "numbers") = False := by rw [strE]; exact eq_false (by decide)
theorem nm_begin_rows : (Str.ofString "begin" = Str.ofString "rows") = False := by rw [strE]; exact eq_false (by decide)
theorem nm_begin_seen : (Str.ofString "begin" = Str.ofString "seen") = False := by rw [strE]; exact eq_false (by decide)
theorem nm_begin_stand : (Str.ofString "begin" = Str.ofString "stand") = False := by rw [strE]; exact eq_false (by decide)
theorem nm_begin_wide : (Str.ofString "begin" = Str.ofString "wide") = False := by rw [strE]; exact eq_false (by decide)
theorem nm_begin_works : (Str.ofString "begin" = Str.ofString "works") = False := by rw [strE]; exact eq_false (by decide)
theorem nm_begin_rows_done : (Str.ofString "begin_rows" = Str.ofString "done") = False := by rw [strE]; exact eq_false (by decide)
theorem nm_begin_rows_kind : (Str.ofString "begin_rows" = Str.ofString "kind") = False := by rw [strE]; exact eq_false (by decide)
theorem nm_begin_rows_looks : (Str.ofString "begin_rows" = Str.ofString "looks") = False := by rw [strE]; exact eq_false (by decide)
theorem nm_begin_rows_rows : (Str.ofString "begin_rows" = Str.ofString "rows") = False := by rw [strE]; exact eq_false (by decide)
theorem nm_begin_rows_seen : (Str.ofString "begin_rows" = Str.ofString "seen") = False := by rw [strE]; exact eq_false (by decide)
theorem nm_begin_rows_works : (Str.ofString "begin_rows" = Str.ofString "works") = False := by rw [strE]; exact eq_false (by decide)
theorem nm_below_base : (Str.ofString "below" = Str.ofString "base") = False := by rw [strE]; exact eq_false (by decide)
theorem nm_below_under : (Str.ofString "below" = Str.ofString "under") = False := by rw [strE]; exact eq_false (by decide)
theorem nm_below_upper : (Str.ofString "below" = Str.ofString "upper") = False := by rw [strE]; exact eq_false (by decide)
theorem nm_deeds_done : (Str.ofString "deeds" = Str.ofString "done") = False := by rw [strE]; exact eq_false (by decide)
theorem nm_deeds_kind : (Str.ofString "deeds" = Str.ofString "kind") = False := by rw [strE]; exact eq_false (by decide)
theorem nm_deeds_looks : (Str.ofString "deeds" = Str.ofString "looks") = False := by rw [strE]; exact eq_false (by decide)
theorem nm_deeds_rows : (Str.ofString "deeds" = Str.ofString "rows") = False := by rw [strE]; exact eq_false (by decide)
theorem nm_deeds_seen : (Str.ofString "deeds" = Str.ofString "seen") = False := by rw [strE]; exact eq_false (by decide)
theorem nm_deeds_works : (Str.ofString "deeds" = Str.ofString "works") = False := by rw [strE]; exact eq_false (by decide)
theorem nm_divided_kind : (Str.ofString "divided" = Str.ofString "kind") = False := by rw [strE]; exact eq_false (by decide)
theorem nm_divided_looks : (Str.ofString "divided" = Str.ofString "looks") = False := by rw [strE]; exact eq_false (by decide)
theorem nm_divided_sight : (Str.ofString "divided" = Str.ofString "sight") = False := by rw [strE]; exact eq_false (by decide)
theorem nm_divided_table : (Str.ofString "divided" = Str.ofString "table") = False := by rw [strE]; exact eq_false (by decide)
theorem nm_done_begin : (Str.ofString "done" = Str.ofString "begin") = False := by rw [strE]; exact eq_false (by decide)
theorem nm_done_begin_rows : (Str.ofString "done" = Str.ofString "begin_rows") = False := by rw [strE]; exact eq_false (by decide)
theorem nm_done_deeds : (Str.ofString "done" = Str.ofString "deeds") = False := by rw [strE]; exact eq_false (by decide)
theorem nm_done_entries : (Str.ofString "done" = Str.ofString "entries") = False := by rw [strE]; exact eq_false (by decide)
theorem nm_done_go : (Str.ofString "done" = Str.ofString "go") = False := by rw [strE]; exact eq_false (by decide)
theorem nm_done_kind : (Str.ofString "done" = Str.ofString "kind") = False := by rw [strE]; exact eq_false (by decide)
theorem nm_done_looked : (Str.ofString "done" = Str.ofString "looked") = False := by rw [strE]; exact eq_false (by decide)
theorem nm_done_looks : (Str.ofString "done" = Str.ofString "looks") = False := by rw [strE]; exact eq_false (by decide)
theorem nm_done_put : (Str.ofString "done" = Str.ofString "put") = False := by rw [strE]; exact eq_false (by decide)
theorem nm_done_rest : (Str.ofString "done" = Str.ofString "rest") = False := by rw [strE]; exact eq_false (by decide)
theorem nm_done_row : (Str.ofString "done" = Str.ofString "row") = False := by rw [strE]; exact eq_false (by decide)
theorem nm_done_rows : (Str.ofString "done" = Str.ofString "rows") = False := by rw [strE]; exact eq_false (by decide)
theorem nm_done_seen : (Str.ofString "done" = Str.ofString "seen") = False := by rw [strE]; exact eq_false (by decide)
theorem nm_done_work : (Str.ofString "done" = Str.ofString "work") = False := by rw [strE]; exact eq_false (by decide)
theorem nm_done_works : (Str.ofString "done" = Str.ofString "works") = False := by rw [strE]; exact eq_false (by decide)
theorem nm_done_wrong : (Str.ofString "done" = Str.ofString "wrong") = False := by rw [strE]; exact eq_false (by decide)
theorem nm_end_ahead : (Str.ofString "end" = Str.ofString "ahead") = False := by rw [strE]; exact eq_false (by decide)
theorem nm_end_ended : (Str.ofString "end" = Str.ofString "ended") = False := by rw [strE]; exact eq_false (by decide)
theorem nm_end_figures : (Str.ofString "end" = Str.ofString "figures") = False := by rw [strE]; exact eq_false (by decide)
theorem nm_end_kind : (Str.ofString "end" = Str.ofString "kind") = False := by rw [strE]; exact eq_false (by decide)
theorem nm_end_last : (Str.ofString "end" = Str.ofString "last") = False := by rw [strE]; exact eq_false (by decide)
theorem nm_ended_ahead : (Str.ofString "ended" = Str.ofString "ahead") = False := by rw [strE]; exact eq_false (by decide)
theorem nm_ended_end : (Str.ofString "ended" = Str.ofString "end") = False := by rw [strE]; exact eq_false (by decide)
theorem nm_ended_figures : (Str.ofString "ended" = Str.ofString "figures") = False := by rw [strE]; exact eq_false (by decide)
theorem nm_ended_is_figure : (Str.ofString "ended" = Str.ofString "is_figure") = False := by rw [strE]; exact eq_false (by decide)
theorem nm_ended_kind : (Str.ofString "ended" = Str.ofString "kind") = False := by rw [strE]; exact eq_false (by decide)
theorem nm_ended_last : (Str.ofString "ended" = Str.ofString "last") = False := by rw [strE]; exact eq_false (by decide)
theorem nm_ended_parted : (Str.ofString "ended" = Str.ofString "parted") = False := by rw [strE]; exact eq_false (by decide)
theorem nm_ended_put : (Str.ofString "ended" = Str.ofString "put") = False := by rw [strE]; exact eq_false (by decide)
theorem nm_ended_told : (Str.ofString "ended" = Str.ofString "told") = False := by rw [strE]; exact eq_false (by decide)
theorem nm_entered_kind : (Str.ofString "entered" = Str.ofString "kind") = False := by rw [strE]; exact eq_false (by decide)
theorem nm_entered_looks : (Str.ofString "entered" = Str.ofString "looks") = False := by rw [strE]; exact eq_false (by decide)
theorem nm_entered_sight : (Str.ofString "entered" = Str.ofString "sight") = False := by rw [strE]; exact eq_false (by decide)
theorem nm_entered_table : (Str.ofString "entered" = Str.ofString "table") = False := by rw [strE]; exact eq_false (by decide)
theorem nm_entries_done : (Str.ofString "entries" = Str.ofString "done") = False := by rw [strE]; exact eq_false (by decide)
theorem nm_entries_kind : (Str.ofString "entries" = Str.ofString "kind") = False := by rw [strE]; exact eq_false (by decide)
theorem nm_entries_looks : (Str.ofString "entries" = Str.ofString "looks") = False := by rw [strE]; exact eq_false (by decide)
theorem nm_entries_rows : (Str.ofString "entries" = Str.ofString "rows") = False := by rw [strE]; exact eq_false (by decide)
theorem nm_entries_seen : (Str.ofString "entries" = Str.ofString "seen") = False := by rw [strE]; exact eq_false (by decide)
theorem nm_entries_works : (Str.ofString "entries" = Str.ofString "works") = False := by rw [strE]; exact eq_false (by decide)
theorem nm_figures_ahead : (Str.ofString "figures" = Str.ofString "ahead") = False := by rw [strE]; exact eq_false (by decide)
theorem nm_figures_begin : (Str.ofString "figures" = Str.ofString "begin") = False := by rw [strE]; exact eq_false (by decide)
theorem nm_figures_end : (Str.ofString "figures" = Str.ofString "end") = False := by rw [strE]; exact eq_false (by decide)
theorem nm_figures_ended : (Str.ofString "figures" = Str.ofString "ended") = False := by rw [strE]; exact eq_false (by decide)
theorem nm_figures_great : (Str.ofString "figures" = Str.ofString "great") = False := by rw [strE]; exact eq_false (by decide)
theorem nm_figures_is_figure : (Str.ofString "figures" = Str.ofString "is_figure") = False := by rw [strE]; exact eq_false (by decide)
theorem nm_figures_kind : (Str.ofString "figures" = Str.ofString "kind") = False := by rw [strE]; exact eq_false (by decide)
theorem nm_figures_last : (Str.ofString "figures" = Str.ofString "last") = False := by rw [strE]; exact eq_false (by decide)
theorem nm_figures_left : (Str.ofString "figures" = Str.ofString "left") = False := by rw [strE]; exact eq_false (by decide)
theorem nm_figures_looks : (Str.ofString "figures" = Str.ofString "looks") = False := by rw [strE]; exact eq_false (by decide)
theorem nm_figures_numbers : (Str.ofString "figures" = Str.ofString "numbers") = False := by rw [strE]; exact eq_false (by decide)
theorem nm_figures_parted : (Str.ofString "figures" = Str.ofString "parted") = False := by rw [strE]; exact eq_false (by decide)
theorem nm_figures_put : (Str.ofString "figures" = Str.ofString "put") = False := by rw [strE]; exact eq_false (by decide)
theorem nm_figures_rest : (Str.ofString "figures" = Str.ofString "rest") = False := by rw [strE]; exact eq_false (by decide)
theorem nm_figures_stand : (Str.ofString "figures" = Str.ofString "stand") = False := by rw [strE]; exact eq_false (by decide)
theorem nm_figures_told : (Str.ofString "figures" = Str.ofString "told") = False := by rw [strE]; exact eq_false (by decide)
theorem nm_figures_tried : (Str.ofString "figures" = Str.ofString "tried") = False := by rw [strE]; exact eq_false (by decide)
theorem nm_figures_wide : (Str.ofString "figures" = Str.ofString "wide") = False := by rw [strE]; exact eq_false (by decide)
theorem nm_go_done : (Str.ofString "go" = Str.ofString "done") = False := by rw [strE]; exact eq_false (by decide)
theorem nm_go_kind : (Str.ofString "go" = Str.ofString "kind") = False := by rw [strE]; exact eq_false (by decide)
theorem nm_go_looks : (Str.ofString "go" = Str.ofString "looks") = False := by rw [strE]; exact eq_false (by decide)
theorem nm_go_rows : (Str.ofString "go" = Str.ofString "rows") = False := by rw [strE]; exact eq_false (by decide)
theorem nm_go_seen : (Str.ofString "go" = Str.ofString "seen") = False := by rw [strE]; exact eq_false (by decide)
theorem nm_go_works : (Str.ofString "go" = Str.ofString "works") = False := by rw [strE]; exact eq_false (by decide)
theorem nm_great_begin : (Str.ofString "great" = Str.ofString "begin") = False := by rw [strE]; exact eq_false (by decide)
theorem nm_great_figures : (Str.ofString "great" = Str.ofString "figures") = False := by rw [strE]; exact eq_false (by decide)
theorem nm_great_kind : (Str.ofString "great" = Str.ofString "kind") = False := by rw [strE]; exact eq_false (by decide)
theorem nm_great_left : (Str.ofString "great" = Str.ofString "left") = False := by rw [strE]; exact eq_false (by decide)
theorem nm_great_looks : (Str.ofString "great" = Str.ofString "looks") = False := by rw [strE]; exact eq_false (by decide)
theorem nm_great_numbers : (Str.ofString "great" = Str.ofString "numbers") = False := by rw [strE]; exact eq_false (by decide)
theorem nm_great_rest : (Str.ofString "great" = Str.ofString "rest") = False := by rw [strE]; exact eq_false (by decide)
theorem nm_great_stand : (Str.ofString "great" = Str.ofString "stand") = False := by rw [strE]; exact eq_false (by decide)
theorem nm_great_tried : (Str.ofString "great" = Str.ofString "tried") = False := by rw [strE]; exact eq_false (by decide)
theorem nm_great_wide : (Str.ofString "great" = Str.ofString "wide") = False := by rw [strE]; exact eq_false (by decide)
theorem nm_held_base : (Str.ofString "held" = Str.ofString "base") = False := by rw [strE]; exact eq_false (by decide)
theorem nm_held_under : (Str.ofString "held" = Str.ofString "under") = False := by rw [strE]; exact eq_false (by decide)
theorem nm_held_upper : (Str.ofString "held" = Str.ofString "upper") = False := by rw [strE]; exact eq_false (by decide)
theorem nm_is_figure_ahead : (Str.ofString "is_figure" = Str.ofString "ahead") = False := by rw [strE]; exact eq_false (by decide)
theorem nm_is_figure_ended : (Str.ofString "is_figure" = Str.ofString "ended") = False := by rw [strE]; exact eq_false (by decide)
theorem nm_is_figure_figures : (Str.ofString "is_figure" = Str.ofString "figures") = False := by rw [strE]; exact eq_false (by decide)
theorem nm_is_figure_kind : (Str.ofString "is_figure" = Str.ofString "kind") = False := by rw [strE]; exact eq_false (by decide)
theorem nm_is_figure_last : (Str.ofString "is_figure" = Str.ofString "last") = False := by rw [strE]; exact eq_false (by decide)
theorem nm_kind_ahead : (Str.ofString "kind" = Str.ofString "ahead") = False := by rw [strE]; exact eq_false (by decide)
theorem nm_kind_ask_cell : (Str.ofString "kind" = Str.ofString "ask_cell") = False := by rw [strE]; exact eq_false (by decide)
theorem nm_kind_begin : (Str.ofString "kind" = Str.ofString "begin") = False := by rw [strE]; exact eq_false (by decide)
theorem nm_kind_begin_rows : (Str.ofString "kind" = Str.ofString "begin_rows") = False := by rw [strE]; exact eq_false (by decide)
theorem nm_kind_deeds : (Str.ofString "kind" = Str.ofString "deeds") = False := by rw [strE]; exact eq_false (by decide)
theorem nm_kind_divided : (Str.ofString "kind" = Str.ofString "divided") = False := by rw [strE]; exact eq_false (by decide)
theorem nm_kind_done : (Str.ofString "kind" = Str.ofString "done") = False := by rw [strE]; exact eq_false (by decide)
theorem nm_kind_end : (Str.ofString "kind" = Str.ofString "end") = False := by rw [strE]; exact eq_false (by decide)
theorem nm_kind_ended : (Str.ofString "kind" = Str.ofString "ended") = False := by rw [strE]; exact eq_false (by decide)
theorem nm_kind_entered : (Str.ofString "kind" = Str.ofString "entered") = False := by rw [strE]; exact eq_false (by decide)
theorem nm_kind_entries : (Str.ofString "kind" = Str.ofString "entries") = False := by rw [strE]; exact eq_false (by decide)
theorem nm_kind_figures : (Str.ofString "kind" = Str.ofString "figures") = False := by rw [strE]; exact eq_false (by decide)
theorem nm_kind_go : (Str.ofString "kind" = Str.ofString "go") = False := by rw [strE]; exact eq_false (by decide)
theorem nm_kind_great : (Str.ofString "kind" = Str.ofString "great") = False := by rw [strE]; exact eq_false (by decide)
theorem nm_kind_is_figure : (Str.ofString "kind" = Str.ofString "is_figure") = False := by rw [strE]; exact eq_false (by decide)
theorem nm_kind_last : (Str.ofString "kind" = Str.ofString "last") = False := by rw [strE]; exact eq_false (by decide)
theorem nm_kind_left : (Str.ofString "kind" = Str.ofString "left") = False := by rw [strE]; exact eq_false (by decide)
theorem nm_kind_looked : (Str.ofString "kind" = Str.ofString "looked") = False := by rw [strE]; exact eq_false (by decide)
theorem nm_kind_looks : (Str.ofString "kind" = Str.ofString "looks") = False := by rw [strE]; exact eq_false (by decide)
theorem nm_kind_numbers : (Str.ofString "kind" = Str.ofString "numbers") = False := by rw [strE]; exact eq_false (by decide)
theorem nm_kind_parted : (Str.ofString "kind" = Str.ofString "parted") = False := by rw [strE]; exact eq_false (by decide)
theorem nm_kind_put : (Str.ofString "kind" = Str.ofString "put") = False := by rw [strE]; exact eq_false (by decide)
theorem nm_kind_put_all : (Str.ofString "kind" = Str.ofString "put_all") = False := by rw [strE]; exact eq_false (by decide)
theorem nm_kind_rest : (Str.ofString "kind" = Str.ofString "rest") = False := by rw [strE]; exact eq_false (by decide)
theorem nm_kind_row : (Str.ofString "kind" = Str.ofString "row") = False := by rw [strE]; exact eq_false (by decide)
theorem nm_kind_rows : (Str.ofString "kind" = Str.ofString "rows") = False := by rw [strE]; exact eq_false (by decide)
theorem nm_kind_say : (Str.ofString "kind" = Str.ofString "say") = False := by rw [strE]; exact eq_false (by decide)
theorem nm_kind_seen : (Str.ofString "kind" = Str.ofString "seen") = False := by rw [strE]; exact eq_false (by decide)
theorem nm_kind_sight : (Str.ofString "kind" = Str.ofString "sight") = False := by rw [strE]; exact eq_false (by decide)
theorem nm_kind_stand : (Str.ofString "kind" = Str.ofString "stand") = False := by rw [strE]; exact eq_false (by decide)
theorem nm_kind_table : (Str.ofString "kind" = Str.ofString "table") = False := by rw [strE]; exact eq_false (by decide)
theorem nm_kind_told : (Str.ofString "kind" = Str.ofString "told") = False := by rw [strE]; exact eq_false (by decide)
theorem nm_kind_tried : (Str.ofString "kind" = Str.ofString "tried") = False := by rw [strE]; exact eq_false (by decide)
theorem nm_kind_turned : (Str.ofString "kind" = Str.ofString "turned") = False := by rw [strE]; exact eq_false (by decide)
theorem nm_kind_wide : (Str.ofString "kind" = Str.ofString "wide") = False := by rw [strE]; exact eq_false (by decide)
theorem nm_kind_work : (Str.ofString "kind" = Str.ofString "work") = False := by rw [strE]; exact eq_false (by decide)
theorem nm_kind_works : (Str.ofString "kind" = Str.ofString "works") = False := by rw [strE]; exact eq_false (by decide)
theorem nm_kind_wrong : (Str.ofString "kind" = Str.ofString "wrong") = False := by rw [strE]; exact eq_false (by decide)
theorem nm_last_ahead : (Str.ofString "last" = Str.ofString "ahead") = False := by rw [strE]; exact eq_false (by decide)
theorem nm_last_end : (Str.ofString "last" = Str.ofString "end") = False := by rw [strE]; exact eq_false (by decide)
theorem nm_last_ended : (Str.ofString "last" = Str.ofString "ended") = False := by rw [strE]; exact eq_false (by decide)
theorem nm_last_figures : (Str.ofString "last" = Str.ofString "figures") = False := by rw [strE]; exact eq_false (by decide)
theorem nm_last_is_figure : (Str.ofString "last" = Str.ofString "is_figure") = False := by rw [strE]; exact eq_false (by decide)
theorem nm_last_kind : (Str.ofString "last" = Str.ofString "kind") = False := by rw [strE]; exact eq_false (by decide)
theorem nm_last_parted : (Str.ofString "last" = Str.ofString "parted") = False := by rw [strE]; exact eq_false (by decide)
theorem nm_last_put : (Str.ofString "last" = Str.ofString "put") = False := by rw [strE]; exact eq_false (by decide)
theorem nm_last_told : (Str.ofString "last" = Str.ofString "told") = False := by rw [strE]; exact eq_false (by decide)
theorem nm_left_begin : (Str.ofString "left" = Str.ofString "begin") = False := by rw [strE]; exact eq_false (by decide)
theorem nm_left_figures : (Str.ofString "left" = Str.ofString "figures") = False := by rw [strE]; exact eq_false (by decide)
theorem nm_left_great : (Str.ofString "left" = Str.ofString "great") = False := by rw [strE]; exact eq_false (by decide)
theorem nm_left_kind : (Str.ofString "left" = Str.ofString "kind") = False := by rw [strE]; exact eq_false (by decide)
theorem nm_left_looks : (Str.ofString "left" = Str.ofString "looks") = False := by rw [strE]; exact eq_false (by decide)
theorem nm_left_numbers : (Str.ofString "left" = Str.ofString "numbers") = False := by rw [strE]; exact eq_false (by decide)
theorem nm_left_rest : (Str.ofString "left" = Str.ofString "rest") = False := by rw [strE]; exact eq_false (by decide)
theorem nm_left_stand : (Str.ofString "left" = Str.ofString "stand") = False := by rw [strE]; exact eq_false (by decide)
theorem nm_left_tried : (Str.ofString "left" = Str.ofString "tried") = False := by rw [strE]; exact eq_false (by decide)
theorem nm_left_wide : (Str.ofString "left" = Str.ofString "wide") = False := by rw [strE]; exact eq_false (by decide)
theorem nm_look_top : (Str.ofString "look" = Str.ofString "top") = False := by rw [strE]; exact eq_false (by decide)
theorem nm_looked_done : (Str.ofString "looked" = Str.ofString "done") = False := by rw [strE]; exact eq_false (by decide)
theorem nm_looked_kind : (Str.ofString "looked" = Str.ofString "kind") = False := by rw [strE]; exact eq_false (by decide)
theorem nm_looked_looks : (Str.ofString "looked" = Str.ofString "looks") = False := by rw [strE]; exact eq_false (by decide)
theorem nm_looked_rows : (Str.ofString "looked" = Str.ofString "rows") = False := by rw [strE]; exact eq_false (by decide)
theorem nm_looked_seen : (Str.ofString "looked" = Str.ofString "seen") = False := by rw [strE]; exact eq_false (by decide)
theorem nm_looked_sight : (Str.ofString "looked" = Str.ofString "sight") = False := by rw [strE]; exact eq_false (by decide)
theorem nm_looked_table : (Str.ofString "looked" = Str.ofString "table") = False := by rw [strE]; exact eq_false (by decide)
theorem nm_looked_works : (Str.ofString "looked" = Str.ofString "works") = False := by rw [strE]; exact eq_false (by decide)
theorem nm_looks_ask_cell : (Str.ofString "looks" = Str.ofString "ask_cell") = False := by rw [strE]; exact eq_false (by decide)
theorem nm_looks_begin : (Str.ofString "looks" = Str.ofString "begin") = False := by rw [strE]; exact eq_false (by decide)
theorem nm_looks_begin_rows : (Str.ofString "looks" = Str.ofString "begin_rows") = False := by rw [strE]; exact eq_false (by decide)
theorem nm_looks_deeds : (Str.ofString "looks" = Str.ofString "deeds") = False := by rw [strE]; exact eq_false (by decide)
theorem nm_looks_divided : (Str.ofString "looks" = Str.ofString "divided") = False := by rw [strE]; exact eq_false (by decide)
theorem nm_looks_done : (Str.ofString "looks" = Str.ofString "done") = False := by rw [strE]; exact eq_false (by decide)
theorem nm_looks_entered : (Str.ofString "looks" = Str.ofString "entered") = False := by rw [strE]; exact eq_false (by decide)
theorem nm_looks_entries : (Str.ofString "looks" = Str.ofString "entries") = False := by rw [strE]; exact eq_false (by decide)
theorem nm_looks_figures : (Str.ofString "looks" = Str.ofString "figures") = False := by rw [strE]; exact eq_false (by decide)
theorem nm_looks_go : (Str.ofString "looks" = Str.ofString "go") = False := by rw [strE]; exact eq_false (by decide)
theorem nm_looks_great : (Str.ofString "looks" = Str.ofString "great") = False := by rw [strE]; exact eq_false (by decide)
theorem nm_looks_kind : (Str.ofString "looks" = Str.ofString "kind") = False := by rw [strE]; exact eq_false (by decide)
theorem nm_looks_left : (Str.ofString "looks" = Str.ofString "left") = False := by rw [strE]; exact eq_false (by decide)
theorem nm_looks_looked : (Str.ofString "looks" = Str.ofString "looked") = False := by rw [strE]; exact eq_false (by decide)
theorem nm_looks_numbers : (Str.ofString "looks" = Str.ofString "numbers") = False := by rw [strE]; exact eq_false (by decide)
theorem nm_looks_put : (Str.ofString "looks" = Str.ofString "put") = False := by rw [strE]; exact eq_false (by decide)
theorem nm_looks_put_all : (Str.ofString "looks" = Str.ofString "put_all") = False := by rw [strE]; exact eq_false (by decide)
theorem nm_looks_rest : (Str.ofString "looks" = Str.ofString "rest") = False := by rw [strE]; exact eq_false (by decide)
theorem nm_looks_row : (Str.ofString "looks" = Str.ofString "row") = False := by rw [strE]; exact eq_false (by decide)
theorem nm_looks_rows : (Str.ofString "looks" = Str.ofString "rows") = False := by rw [strE]; exact eq_false (by decide)
theorem nm_looks_say : (Str.ofString "looks" = Str.ofString "say") = False := by rw [strE]; exact eq_false (by decide)
theorem nm_looks_seen : (Str.ofString "looks" = Str.ofString "seen") = False := by rw [strE]; exact eq_false (by decide)
theorem nm_looks_sight : (Str.ofString "looks" = Str.ofString "sight") = False := by rw [strE]; exact eq_false (by decide)
theorem nm_looks_stand : (Str.ofString "looks" = Str.ofString "stand") = False := by rw [strE]; exact eq_false (by decide)
theorem nm_looks_table : (Str.ofString "looks" = Str.ofString "table") = False := by rw [strE]; exact eq_false (by decide)
theorem nm_looks_told : (Str.ofString "looks" = Str.ofString "told") = False := by rw [strE]; exact eq_false (by decide)
theorem nm_looks_tried : (Str.ofString "looks" = Str.ofString "tried") = False := by rw [strE]; exact eq_false (by decide)
theorem nm_looks_turned : (Str.ofString "looks" = Str.ofString "turned") = False := by rw [strE]; exact eq_false (by decide)
theorem nm_looks_wide : (Str.ofString "looks" = Str.ofString "wide") = False := by rw [strE]; exact eq_false (by decide)
theorem nm_looks_work : (Str.ofString "looks" = Str.ofString "work") = False := by rw [strE]; exact eq_false (by decide)
theorem nm_looks_works : (Str.ofString "looks" = Str.ofString "works") = False := by rw [strE]; exact eq_false (by decide)
theorem nm_looks_wrong : (Str.ofString "looks" = Str.ofString "wrong") = False := by rw [strE]; exact eq_false (by decide)
theorem nm_numbers_begin : (Str.ofString "numbers" = Str.ofString "begin") = False := by rw [strE]; exact eq_false (by decide)
theorem nm_numbers_figures : (Str.ofString "numbers" = Str.ofString "figures") = False := by rw [strE]; exact eq_false (by decide)
theorem nm_numbers_great : (Str.ofString "numbers" = Str.ofString "great") = False := by rw [strE]; exact eq_false (by decide)
theorem nm_numbers_kind : (Str.ofString "numbers" = Str.ofString "kind") = False := by rw [strE]; exact eq_false (by decide)
theorem nm_numbers_left : (Str.ofString "numbers" = Str.ofString "left") = False := by rw [strE]; exact eq_false (by decide)
theorem nm_numbers_looks : (Str.ofString "numbers" = Str.ofString "looks") = False := by rw [strE]; exact eq_false (by decide)
theorem nm_numbers_rest : (Str.ofString "numbers" = Str.ofString "rest") = False := by rw [strE]; exact eq_false (by decide)
theorem nm_numbers_stand : (Str.ofString "numbers" = Str.ofString "stand") = False := by rw [strE]; exact eq_false (by decide)
theorem nm_numbers_tried : (Str.ofString "numbers" = Str.ofString "tried") = False := by rw [strE]; exact eq_false (by decide)
theorem nm_numbers_wide : (Str.ofString "numbers" = Str.ofString "wide") = False := by rw [strE]; exact eq_false (by decide)
theorem nm_parted_ahead : (Str.ofString "parted" = Str.ofString "ahead") = False := by rw [strE]; exact eq_false (by decide)
theorem nm_parted_ended : (Str.ofString "parted" = Str.ofString "ended") = False := by rw [strE]; exact eq_false (by decide)
theorem nm_parted_figures : (Str.ofString "parted" = Str.ofString "figures") = False := by rw [strE]; exact eq_false (by decide)
theorem nm_parted_kind : (Str.ofString "parted" = Str.ofString "kind") = False := by rw [strE]; exact eq_false (by decide)
theorem nm_parted_last : (Str.ofString "parted" = Str.ofString "last") = False := by rw [strE]; exact eq_false (by decide)
theorem nm_put_ahead : (Str.ofString "put" = Str.ofString "ahead") = False := by rw [strE]; exact eq_false (by decide)
theorem nm_put_base : (Str.ofString "put" = Str.ofString "base") = False := by rw [strE]; exact eq_false (by decide)
theorem nm_put_done : (Str.ofString "put" = Str.ofString "done") = False := by rw [strE]; exact eq_false (by decide)
theorem nm_put_ended : (Str.ofString "put" = Str.ofString "ended") = False := by rw [strE]; exact eq_false (by decide)
theorem nm_put_figures : (Str.ofString "put" = Str.ofString "figures") = False := by rw [strE]; exact eq_false (by decide)
theorem nm_put_kind : (Str.ofString "put" = Str.ofString "kind") = False := by rw [strE]; exact eq_false (by decide)
theorem nm_put_last : (Str.ofString "put" = Str.ofString "last") = False := by rw [strE]; exact eq_false (by decide)
theorem nm_put_looks : (Str.ofString "put" = Str.ofString "looks") = False := by rw [strE]; exact eq_false (by decide)
theorem nm_put_rows : (Str.ofString "put" = Str.ofString "rows") = False := by rw [strE]; exact eq_false (by decide)
theorem nm_put_seen : (Str.ofString "put" = Str.ofString "seen") = False := by rw [strE]; exact eq_false (by decide)
theorem nm_put_under : (Str.ofString "put" = Str.ofString "under") = False := by rw [strE]; exact eq_false (by decide)
theorem nm_put_upper : (Str.ofString "put" = Str.ofString "upper") = False := by rw [strE]; exact eq_false (by decide)
theorem nm_put_works : (Str.ofString "put" = Str.ofString "works") = False := by rw [strE]; exact eq_false (by decide)
theorem nm_put_all_kind : (Str.ofString "put_all" = Str.ofString "kind") = False := by rw [strE]; exact eq_false (by decide)
theorem nm_put_all_looks : (Str.ofString "put_all" = Str.ofString "looks") = False := by rw [strE]; exact eq_false (by decide)
theorem nm_put_all_sight : (Str.ofString "put_all" = Str.ofString "sight") = False := by rw [strE]; exact eq_false (by decide)
theorem nm_put_all_table : (Str.ofString "put_all" = Str.ofString "table") = False := by rw [strE]; exact eq_false (by decide)
theorem nm_rest_done : (Str.ofString "rest" = Str.ofString "done") = False := by rw [strE]; exact eq_false (by decide)
theorem nm_rest_figures : (Str.ofString "rest" = Str.ofString "figures") = False := by rw [strE]; exact eq_false (by decide)
theorem nm_rest_great : (Str.ofString "rest" = Str.ofString "great") = False := by rw [strE]; exact eq_false (by decide)
theorem nm_rest_kind : (Str.ofString "rest" = Str.ofString "kind") = False := by rw [strE]; exact eq_false (by decide)
theorem nm_rest_left : (Str.ofString "rest" = Str.ofString "left") = False := by rw [strE]; exact eq_false (by decide)
theorem nm_rest_looks : (Str.ofString "rest" = Str.ofString "looks") = False := by rw [strE]; exact eq_false (by decide)
theorem nm_rest_numbers : (Str.ofString "rest" = Str.ofString "numbers") = False := by rw [strE]; exact eq_false (by decide)
theorem nm_rest_rows : (Str.ofString "rest" = Str.ofString "rows") = False := by rw [strE]; exact eq_false (by decide)
theorem nm_rest_seen : (Str.ofString "rest" = Str.ofString "seen") = False := by rw [strE]; exact eq_false (by decide)
theorem nm_rest_stand : (Str.ofString "rest" = Str.ofString "stand") = False := by rw [strE]; exact eq_false (by decide)
theorem nm_rest_wide : (Str.ofString "rest" = Str.ofString "wide") = False := by rw [strE]; exact eq_false (by decide)
theorem nm_rest_works : (Str.ofString "rest" = Str.ofString "works") = False := by rw [strE]; exact eq_false (by decide)
theorem nm_row_done : (Str.ofString "row" = Str.ofString "done") = False := by rw [strE]; exact eq_false (by decide)
theorem nm_row_kind : (Str.ofString "row" = Str.ofString "kind") = False := by rw [strE]; exact eq_false (by decide)
theorem nm_row_looks : (Str.ofString "row" = Str.ofString "looks") = False := by rw [strE]; exact eq_false (by decide)
theorem nm_row_rows : (Str.ofString "row" = Str.ofString "rows") = False := by rw [strE]; exact eq_false (by decide)
theorem nm_row_seen : (Str.ofString "row" = Str.ofString "seen") = False := by rw [strE]; exact eq_false (by decide)
theorem nm_row_works : (Str.ofString "row" = Str.ofString "works") = False := by rw [strE]; exact eq_false (by decide)
theorem nm_rows_begin : (Str.ofString "rows" = Str.ofString "begin") = False := by rw [strE]; exact eq_false (by decide)
theorem nm_rows_begin_rows : (Str.ofString "rows" = Str.ofString "begin_rows") = False := by rw [strE]; exact eq_false (by decide)
theorem nm_rows_deeds : (Str.ofString "rows" = Str.ofString "deeds") = False := by rw [strE]; exact eq_false (by decide)
theorem nm_rows_done : (Str.ofString "rows" = Str.ofString "done") = False := by rw [strE]; exact eq_false (by decide)
theorem nm_rows_entries : (Str.ofString "rows" = Str.ofString "entries") = False := by rw [strE]; exact eq_false (by decide)
theorem nm_rows_go : (Str.ofString "rows" = Str.ofString "go") = False := by rw [strE]; exact eq_false (by decide)
theorem nm_rows_kind : (Str.ofString "rows" = Str.ofString "kind") = False := by rw [strE]; exact eq_false (by decide)
theorem nm_rows_looked : (Str.ofString "rows" = Str.ofString "looked") = False := by rw [strE]; exact eq_false (by decide)
theorem nm_rows_looks : (Str.ofString "rows" = Str.ofString "looks") = False := by rw [strE]; exact eq_false (by decide)
theorem nm_rows_put : (Str.ofString "rows" = Str.ofString "put") = False := by rw [strE]; exact eq_false (by decide)
theorem nm_rows_rest : (Str.ofString "rows" = Str.ofString "rest") = False := by rw [strE]; exact eq_false (by decide)
theorem nm_rows_row : (Str.ofString "rows" = Str.ofString "row") = False := by rw [strE]; exact eq_false (by decide)
theorem nm_rows_seen : (Str.ofString "rows" = Str.ofString "seen") = False := by rw [strE]; exact eq_false (by decide)
theorem nm_rows_work : (Str.ofString "rows" = Str.ofString "work") = False := by rw [strE]; exact eq_false (by decide)
theorem nm_rows_works : (Str.ofString "rows" = Str.ofString "works") = False := by rw [strE]; exact eq_false (by decide)
theorem nm_rows_wrong : (Str.ofString "rows" = Str.ofString "wrong") = False := by rw [strE]; exact eq_false (by decide)
theorem nm_say_kind : (Str.ofString "say" = Str.ofString "kind") = False := by rw [strE]; exact eq_false (by decide)
theorem nm_say_looks : (Str.ofString "say" = Str.ofString "looks") = False := by rw [strE]; exact eq_false (by decide)
theorem nm_say_sight : (Str.ofString "say" = Str.ofString "sight") = False := by rw [strE]; exact eq_false (by decide)
theorem nm_say_table : (Str.ofString "say" = Str.ofString "table") = False := by rw [strE]; exact eq_false (by decide)
theorem nm_seen_begin : (Str.ofString "seen" = Str.ofString "begin") = False := by rw [strE]; exact eq_false (by decide)
theorem nm_seen_begin_rows : (Str.ofString "seen" = Str.ofString "begin_rows") = False := by rw [strE]; exact eq_false (by decide)
theorem nm_seen_deeds : (Str.ofString "seen" = Str.ofString "deeds") = False := by rw [strE]; exact eq_false (by decide)
theorem nm_seen_done : (Str.ofString "seen" = Str.ofString "done") = False := by rw [strE]; exact eq_false (by decide)
theorem nm_seen_entries : (Str.ofString "seen" = Str.ofString "entries") = False := by rw [strE]; exact eq_false (by decide)
theorem nm_seen_go : (Str.ofString "seen" = Str.ofString "go") = False := by rw [strE]; exact eq_false (by decide)
theorem nm_seen_kind : (Str.ofString "seen" = Str.ofString "kind") = False := by rw [strE]; exact eq_false (by decide)
theorem nm_seen_looked : (Str.ofString "seen" = Str.ofString "looked") = False := by rw [strE]; exact eq_false (by decide)
theorem nm_seen_looks : (Str.ofString "seen" = Str.ofString "looks") = False := by rw [strE]; exact eq_false (by decide)
theorem nm_seen_put : (Str.ofString "seen" = Str.ofString "put") = False := by rw [strE]; exact eq_false (by decide)
theorem nm_seen_rest : (Str.ofString "seen" = Str.ofString "rest") = False := by rw [strE]; exact eq_false (by decide)
theorem nm_seen_row : (Str.ofString "seen" = Str.ofString "row") = False := by rw [strE]; exact eq_false (by decide)
theorem nm_seen_rows : (Str.ofString "seen" = Str.ofString "rows") = False := by rw [strE]; exact eq_false (by decide)
theorem nm_seen_work : (Str.ofString "seen" = Str.ofString "work") = False := by rw [strE]; exact eq_false (by decide)
theorem nm_seen_works : (Str.ofString "seen" = Str.ofString "works") = False := by rw [strE]; exact eq_false (by decide)
theorem nm_seen_wrong : (Str.ofString "seen" = Str.ofString "wrong") = False := by rw [strE]; exact eq_false (by decide)
theorem nm_sight_ask_cell : (Str.ofString "sight" = Str.ofString "ask_cell") = False := by rw [strE]; exact eq_false (by decide)
theorem nm_sight_divided : (Str.ofString "sight" = Str.ofString "divided") = False := by rw [strE]; exact eq_false (by decide)
theorem nm_sight_entered : (Str.ofString "sight" = Str.ofString "entered") = False := by rw [strE]; exact eq_false (by decide)
theorem nm_sight_kind : (Str.ofString "sight" = Str.ofString "kind") = False := by rw [strE]; exact eq_false (by decide)
theorem nm_sight_looked : (Str.ofString "sight" = Str.ofString "looked") = False := by rw [strE]; exact eq_false (by decide)
theorem nm_sight_looks : (Str.ofString "sight" = Str.ofString "looks") = False := by rw [strE]; exact eq_false (by decide)
theorem nm_sight_put_all : (Str.ofString "sight" = Str.ofString "put_all") = False := by rw [strE]; exact eq_false (by decide)
theorem nm_sight_say : (Str.ofString "sight" = Str.ofString "say") = False := by rw [strE]; exact eq_false (by decide)
theorem nm_sight_table : (Str.ofString "sight" = Str.ofString "table") = False := by rw [strE]; exact eq_false (by decide)
theorem nm_sight_told : (Str.ofString "sight" = Str.ofString "told") = False := by rw [strE]; exact eq_false (by decide)
theorem nm_sight_turned : (Str.ofString "sight" = Str.ofString "turned") = False := by rw [strE]; exact eq_false (by decide)
theorem nm_stand_begin : (Str.ofString "stand" = Str.ofString "begin") = False := by rw [strE]; exact eq_false (by decide)
theorem nm_stand_figures : (Str.ofString "stand" = Str.ofString "figures") = False := by rw [strE]; exact eq_false (by decide)
theorem nm_stand_great : (Str.ofString "stand" = Str.ofString "great") = False := by rw [strE]; exact eq_false (by decide)
theorem nm_stand_kind : (Str.ofString "stand" = Str.ofString "kind") = False := by rw [strE]; exact eq_false (by decide)
theorem nm_stand_left : (Str.ofString "stand" = Str.ofString "left") = False := by rw [strE]; exact eq_false (by decide)
theorem nm_stand_looks : (Str.ofString "stand" = Str.ofString "looks") = False := by rw [strE]; exact eq_false (by decide)
theorem nm_stand_numbers : (Str.ofString "stand" = Str.ofString "numbers") = False := by rw [strE]; exact eq_false (by decide)
theorem nm_stand_rest : (Str.ofString "stand" = Str.ofString "rest") = False := by rw [strE]; exact eq_false (by decide)
theorem nm_stand_tried : (Str.ofString "stand" = Str.ofString "tried") = False := by rw [strE]; exact eq_false (by decide)
theorem nm_stand_wide : (Str.ofString "stand" = Str.ofString "wide") = False := by rw [strE]; exact eq_false (by decide)
theorem nm_table_ask_cell : (Str.ofString "table" = Str.ofString "ask_cell") = False := by rw [strE]; exact eq_false (by decide)
theorem nm_table_divided : (Str.ofString "table" = Str.ofString "divided") = False := by rw [strE]; exact eq_false (by decide)
theorem nm_table_entered : (Str.ofString "table" = Str.ofString "entered") = False := by rw [strE]; exact eq_false (by decide)
theorem nm_table_kind : (Str.ofString "table" = Str.ofString "kind") = False := by rw [strE]; exact eq_false (by decide)
theorem nm_table_looked : (Str.ofString "table" = Str.ofString "looked") = False := by rw [strE]; exact eq_false (by decide)
theorem nm_table_looks : (Str.ofString "table" = Str.ofString "looks") = False := by rw [strE]; exact eq_false (by decide)
theorem nm_table_put_all : (Str.ofString "table" = Str.ofString "put_all") = False := by rw [strE]; exact eq_false (by decide)
theorem nm_table_say : (Str.ofString "table" = Str.ofString "say") = False := by rw [strE]; exact eq_false (by decide)
theorem nm_table_sight : (Str.ofString "table" = Str.ofString "sight") = False := by rw [strE]; exact eq_false (by decide)
theorem nm_table_told : (Str.ofString "table" = Str.ofString "told") = False := by rw [strE]; exact eq_false (by decide)
theorem nm_table_turned : (Str.ofString "table" = Str.ofString "turned") = False := by rw [strE]; exact eq_false (by decide)
theorem nm_told_ahead : (Str.ofString "told" = Str.ofString "ahead") = False := by rw [strE]; exact eq_false (by decide)
theorem nm_told_ended : (Str.ofString "told" = Str.ofString "ended") = False := by rw [strE]; exact eq_false (by decide)
theorem nm_told_figures : (Str.ofString "told" = Str.ofString "figures") = False := by rw [strE]; exact eq_false (by decide)
theorem nm_told_kind : (Str.ofString "told" = Str.ofString "kind") = False := by rw [strE]; exact eq_false (by decide)
theorem nm_told_last : (Str.ofString "told" = Str.ofString "last") = False := by rw [strE]; exact eq_false (by decide)
theorem nm_told_looks : (Str.ofString "told" = Str.ofString "looks") = False := by rw [strE]; exact eq_false (by decide)
theorem nm_told_sight : (Str.ofString "told" = Str.ofString "sight") = False := by rw [strE]; exact eq_false (by decide)
theorem nm_told_table : (Str.ofString "told" = Str.ofString "table") = False := by rw [strE]; exact eq_false (by decide)
theorem nm_top_look : (Str.ofString "top" = Str.ofString "look") = False := by rw [strE]; exact eq_false (by decide)
theorem nm_tried_figures : (Str.ofString "tried" = Str.ofString "figures") = False := by rw [strE]; exact eq_false (by decide)
theorem nm_tried_great : (Str.ofString "tried" = Str.ofString "great") = False := by rw [strE]; exact eq_false (by decide)
theorem nm_tried_kind : (Str.ofString "tried" = Str.ofString "kind") = False := by rw [strE]; exact eq_false (by decide)
theorem nm_tried_left : (Str.ofString "tried" = Str.ofString "left") = False := by rw [strE]; exact eq_false (by decide)
theorem nm_tried_looks : (Str.ofString "tried" = Str.ofString "looks") = False := by rw [strE]; exact eq_false (by decide)
theorem nm_tried_numbers : (Str.ofString "tried" = Str.ofString "numbers") = False := by rw [strE]; exact eq_false (by decide)
theorem nm_tried_stand : (Str.ofString "tried" = Str.ofString "stand") = False := by rw [strE]; exact eq_false (by decide)
theorem nm_tried_wide : (Str.ofString "tried" = Str.ofString "wide") = False := by rw [strE]; exact eq_false (by decide)
theorem nm_turned_kind : (Str.ofString "turned" = Str.ofString "kind") = False := by rw [strE]; exact eq_false (by decide)
theorem nm_turned_looks : (Str.ofString "turned" = Str.ofString "looks") = False := by rw [strE]; exact eq_false (by decide)
theorem nm_turned_sight : (Str.ofString "turned" = Str.ofString "sight") = False := by rw [strE]; exact eq_false (by decide)
theorem nm_turned_table : (Str.ofString "turned" = Str.ofString "table") = False := by rw [strE]; exact eq_false (by decide)
theorem nm_under_base : (Str.ofString "under" = Str.ofString "base") = False := by rw [strE]; exact eq_false (by decide)
theorem nm_under_below : (Str.ofString "under" = Str.ofString "below") = False := by rw [strE]; exact eq_false (by decide)
theorem nm_under_held : (Str.ofString "under" = Str.ofString "held") = False := by rw [strE]; exact eq_false (by decide)
theorem nm_under_put : (Str.ofString "under" = Str.ofString "put") = False := by rw [strE]; exact eq_false (by decide)
theorem nm_under_upper : (Str.ofString "under" = Str.ofString "upper") = False := by rw [strE]; exact eq_false (by decide)
theorem nm_upper_base : (Str.ofString "upper" = Str.ofString "base") = False := by rw [strE]; exact eq_false (by decide)
theorem nm_upper_below : (Str.ofString "upper" = Str.ofString "below") = False := by rw [strE]; exact eq_false (by decide)
theorem nm_upper_held : (Str.ofString "upper" = Str.ofString "held") = False := by rw [strE]; exact eq_false (by decide)
theorem nm_upper_put : (Str.ofString "upper" = Str.ofString "put") = False := by rw [strE]; exact eq_false (by decide)
theorem nm_upper_under : (Str.ofString "upper" = Str.ofString "under") = False := by rw [strE]; exact eq_false (by decide)
theorem nm_wide_begin : (Str.ofString "wide" = Str.ofString "begin") = False := by rw [strE]; exact eq_false (by decide)
theorem nm_wide_figures : (Str.ofString "wide" = Str.ofString "figures") = False := by rw [strE]; exact eq_false (by decide)
theorem nm_wide_great : (Str.ofString "wide" = Str.ofString "great") = False := by rw [strE]; exact eq_false (by decide)
theorem nm_wide_kind : (Str.ofString "wide" = Str.ofString "kind") = False := by rw [strE]; exact eq_false (by decide)
theorem nm_wide_left : (Str.ofString "wide" = Str.ofString "left") = False := by rw [strE]; exact eq_false (by decide)
theorem nm_wide_looks : (Str.ofString "wide" = Str.ofString "looks") = False := by rw [strE]; exact eq_false (by decide)
theorem nm_wide_numbers : (Str.ofString "wide" = Str.ofString "numbers") = False := by rw [strE]; exact eq_false (by decide)
theorem nm_wide_rest : (Str.ofString "wide" = Str.ofString "rest") = False := by rw [strE]; exact eq_false (by decide)
theorem nm_wide_stand : (Str.ofString "wide" = Str.ofString "stand") = False := by rw [strE]; exact eq_false (by decide)
theorem nm_wide_tried : (Str.ofString "wide" = Str.ofString "tried") = False := by rw [strE]; exact eq_false (by decide)
theorem nm_work_done : (Str.ofString "work" = Str.ofString "done") = False := by rw [strE]; exact eq_false (by decide)
theorem nm_work_kind : (Str.ofString "work" = Str.ofString "kind") = False := by rw [strE]; exact eq_false (by decide)
theorem nm_work_looks : (Str.ofString "work" = Str.ofString "looks") = False := by rw [strE]; exact eq_false (by decide)
theorem nm_work_rows : (Str.ofString "work" = Str.ofString "rows") = False := by rw [strE]; exact eq_false (by decide)
theorem nm_work_seen : (Str.ofString "work" = Str.ofString "seen") = False := by rw [strE]; exact eq_false (by decide)
theorem nm_work_works : (Str.ofString "work" = Str.ofString "works") = False := by rw [strE]; exact eq_false (by decide)
theorem nm_works_begin : (Str.ofString "works" = Str.ofString "begin") = False := by rw [strE]; exact eq_false (by decide)
theorem nm_works_begin_rows : (Str.ofString "works" = Str.ofString "begin_rows") = False := by rw [strE]; exact eq_false (by decide)
theorem nm_works_deeds : (Str.ofString "works" = Str.ofString "deeds") = False := by rw [strE]; exact eq_false (by decide)
theorem nm_works_done : (Str.ofString "works" = Str.ofString "done") = False := by rw [strE]; exact eq_false (by decide)
theorem nm_works_entries : (Str.ofString "works" = Str.ofString "entries") = False := by rw [strE]; exact eq_false (by decide)
theorem nm_works_go : (Str.ofString "works" = Str.ofString "go") = False := by rw [strE]; exact eq_false (by decide)
theorem nm_works_kind : (Str.ofString "works" = Str.ofString "kind") = False := by rw [strE]; exact eq_false (by decide)
theorem nm_works_looked : (Str.ofString "works" = Str.ofString "looked") = False := by rw [strE]; exact eq_false (by decide)
theorem nm_works_looks : (Str.ofString "works" = Str.ofString "looks") = False := by rw [strE]; exact eq_false (by decide)
theorem nm_works_put : (Str.ofString "works" = Str.ofString "put") = False := by rw [strE]; exact eq_false (by decide)
theorem nm_works_rest : (Str.ofString "works" = Str.ofString "rest") = False := by rw [strE]; exact eq_false (by decide)
theorem nm_works_row : (Str.ofString "works" = Str.ofString "row") = False := by rw [strE]; exact eq_false (by decide)
theorem nm_works_rows : (Str.ofString "works" = Str.ofString "rows") = False := by rw [strE]; exact eq_false (by decide)
theorem nm_works_seen : (Str.ofString "works" = Str.ofString "seen") = False := by rw [strE]; exact eq_false (by decide)
theorem nm_works_work : (Str.ofString "works" = Str.ofString "work") = False := by rw [strE]; exact eq_false (by decide)
theorem nm_works_wrong : (Str.ofString "works" = Str.ofString "wrong") = False := by rw [strE]; exact eq_false (by decide)
theorem nm_wrong_done : (Str.ofString "wrong" = Str.ofString "done") = False := by rw [strE]; exact eq_false (by decide)
theorem nm_wrong_kind : (Str.ofString "wrong" = Str.ofString "kind") = False := by rw [strE]; exact eq_false (by decide)
theorem nm_wrong_looks : (Str.ofString "wrong" = Str.ofString "looks") = False := by rw [strE]; exact eq_false (by decide)
theorem nm_wrong_rows : (Str.ofString "wrong" = Str.ofString "rows") = False := by rw [strE]; exact eq_false (by decide)
theorem nm_wrong_seen : (Str.ofString "wrong" = Str.ofString "seen") = False := by rw [strE]; exact eq_false (by decide)
theorem nm_wrong_works : (Str.ofString "wrong" = Str.ofString "works") = False := by rw [strE]; exact eq_false (by decide)
theorem sz1 : (decide (((1 : Nat) ≤ 1000)) = true) = True := by decide
theorem sz2 : (decide (((2 : Nat) ≤ 1000)) = true) = True := by decide
theorem sz3 : (decide (((3 : Nat) ≤ 1000)) = true) = True := by decide
theorem sz4 : (decide (((4 : Nat) ≤ 1000)) = true) = True := by decide
theorem sz5 : (decide (((5 : Nat) ≤ 1000)) = true) = True := by decide
theorem sz6 : (decide (((6 : Nat) ≤ 1000)) = true) = True := by decide
theorem sz7 : (decide (((7 : Nat) ≤ 1000)) = true) = True := by decide
theorem sz8 : (decide (((8 : Nat) ≤ 1000)) = true) = True := by decide
theorem sz9 : (decide (((9 : Nat) ≤ 1000)) = true) = True := by decide
theorem sz10 : (decide (((10 : Nat) ≤ 1000)) = true) = True := by decide
theorem sz11 : (decide (((11 : Nat) ≤ 1000)) = true) = True := by decide
end Z
set_option Elab.async false
set_option linter.all false
set_option maxRecDepth 100000
namespace Z
open PySem L2
inductive RX where
  | ok (d : D) (s : DS)
  | ex (x : Xc) (s : DS)
  | no
abbrev MX := DS → RX
def QX (K : Fg) (c : Ctx) (O : List Kd) (k : Kd) (F : Hp) (σ : St) (Q : VK) : RX → Prop
  | .ok d ds' => ∀ F' H' fps' v fpv, Same F F' → Rel K c O F' H' σ fps' ds' → Ow K F' H' k v d fpv → (∀ q ∈ fpv, F' q = none ∧ H' q ≠ none ∧ c.H0 q = none ∧ ∀ i, q ∉ fps' i) → fpv.Nodup → Q v H'
  | .ex x ds' => ∀ F' H' fps' cls dd, Same F F' → Rel K c O F' H' σ fps' ds' → ExOk K c.mg F' x cls dd → c.W cls dd σ H'
  | .no => False
structure DX (K : Fg) (c : Ctx) (O : List Kd) (k : Kd) (t : TE) (m : MX) : Prop where
  run : ∀ {F H : Hp} {σ : St} {fps : Nat → List Addr} {ds : DS}, Rel K c O F H σ fps ds → ∀ Q : VK, QX K c O k F σ Q (m ds) → t σ H Q
theorem QX.mono {K : Fg} {c : Ctx} {O : List Kd} {k : Kd} {F F' : Hp} {σ : St} {Q : VK} {r : RX} (s : Same F F') (h : QX K c O k F σ Q r) : QX K c O k F' σ Q r := by
  cases r with
  | ok d _ => exact fun F2 H2 fps2 v fpv s2 => h F2 H2 fps2 v fpv (s.trans s2)
  | ex _ _ => exact fun F2 H2 fps2 cls dd s2 => h F2 H2 fps2 cls dd (s.trans s2)
  | no => exact h
def xOf (m : M D) : MX := fun s => match m s with
  | .ok d s' => .ok d s'
  | .no => .no
def xCall (f : FD) (n : Nat) (ml : M (List D)) : MX := fun s => match ml s with
  | .ok xs s' => if xs.length = n then (match f xs with
    | .ok d _ => .ok d s'
    | .ex x _ => .ex x s'
    | .no => .no) else .no
  | .no => .no
def xCall1 (f : FD) (n j : Nat) (ml : M (List D)) : MX := fun s => match s[j]? with
  | some (some _) => (match ml s with
    | .ok xs s' => (match s'[j]? with
      | some (some e) => if xs.length = n then (match f (e :: xs) with
        | .ok d (e' :: _) => .ok d (s'.set j (some e'))
        | .ex x (e' :: _) => .ex x (s'.set j (some e'))
        | _ => .no) else .no
      | _ => .no)
    | .no => .no)
  | _ => .no
def xCallG (f : FD) (js : JS) (ml : M (List D)) : MX := fun s => match ml s with
  | .ok xs s' => (match fillG s' js xs with
    | some args => (match f args with
      | .ok d as => if as.length = js.length then .ok d (backG js as s') else .no
      | .ex x as => if as.length = js.length then .ex x (backG js as s') else .no
      | .no => .no)
    | none => .no)
  | .no => .no
def xMeth (f : FD) (m : Str) (n j : Nat) (ml : M (List D)) : MX := fun s => match look s j with
  | some e => match noFd m e with
    | some _ => xCall1 f n j ml s
    | none => .no
  | none => .no
def xOp (f : D → D → Option D) (a : MX) (b : M D) : MX := fun s => match a s with
  | .ok x s1 => (match b s1 with
    | .ok y s2 => (match f x y with
      | some z => .ok z s2
      | none => .no)
    | .no => .no)
  | .ex x s1 => .ex x s1
  | .no => .no
def xTup1 (a : MX) : MX := fun s => match a s with
  | .ok x s1 => .ok (.tuple [x]) s1
  | .ex x s1 => .ex x s1
  | .no => .no
def xIf (t : M Bool) (a b : MX) : MX := fun s => match t s with
  | .ok true s1 => a s1
  | .ok false s1 => b s1
  | .no => .no
section
variable {K : Fg} {c : Ctx} {O ps : List Kd} {rk k : Kd} {tl : TA} {ml : M (List D)} {mg : Str → Option Value} {f : FD} {W : WX} {te ta tb : TE} {m : M D} {mx my : MX}
theorem DO.x (h : DO K c O k te m) : DX K c O k te (xOf m) := ⟨fun {F H σ fps ds} r Q q => by
  unfold xOf at q
  cases e : m ds with
  | no => rw [e] at q; exact q.elim
  | ok d s' => rw [e] at q; exact h.run r e _ q⟩
theorem DE.x (h : DE K c O te m) : DX K c O .sh te (xOf m) := h.o.x
theorem x_call (hW : c.W = W) (hmg : c.mg = mg) (h : DA K c O tl ml) (hs : ps.all (· == .sh) = true := by rfl) : DX K c O rk (tCallS (spD K mg f ps rk) (WE W) tl) (xCall f ps.length ml) := ⟨fun {F H σ fps ds} r Q q => by
  unfold xCall at q
  cases e : ml ds with
  | no => rw [e] at q; exact q.elim
  | ok xs s1 =>
    rw [e] at q
    dsimp only at q
    split at q
    · rename_i hl
      refine h.run r e _ fun F1 H1 fps1 vs sF r1 al => ?_
      cases hf : f xs with
      | no => rw [hf] at q; exact q.elim
      | ok d as =>
        rw [hf] at q
        refine spD_ok (args_sh hs r1.sub al hl) hf fun F' H' fps' v fpv o => ?_
        refine q F' H' fps1 v fpv (sF.trans o.ext) (r1.call0 o.toOutB) o.res (fun q hq => ?_) o.rnd
        obtain ⟨h1, h2, h3, h4⟩ := o.roff0 mv_nil q hq
        exact ⟨h1, h2, r1.live q h3, fun i hi => (r1.off i q hi).2.1 h3⟩
      | ex x as =>
        rw [hf] at q
        refine spD_ex (args_sh hs r1.sub al hl) hf fun F' H' fps' cls dd o xo => ?_
        have := q F' H' fps1 cls dd (sF.trans o.ext) (r1.call0 o) (by rw [hmg]; exact xo)
        rw [hW] at this
        exact this
    · exact q.elim⟩
theorem DX.e (h : DX K c O (.ls .sh) te mx) : DX K c O .sh te mx := ⟨fun {F H σ fps ds} r Q q => by
  refine h.run r _ ?_
  cases e : mx ds with
  | no => rw [e] at q; exact q
  | ex x s1 => rw [e] at q; exact q
  | ok d s1 =>
    rw [e] at q
    refine fun F1 H1 fps1 v fpv sF r1 ow hf nd => ?_
    obtain ⟨p, xs, es, rfl, rfl, hp, rfl, al⟩ := ow_ls rfl ow
    obtain ⟨h1, h2, h3, h4⟩ := hf p (by simp)
    have s2 : Same F1 (upd F1 p (.lst xs)) := same_upd h1
    refine q (upd F1 p (.lst xs)) H1 fps1 _ [] (sF.trans s2) ⟨fun b o e => ?_, r1.base.trans s2, r1.keep, r1.live, fun b o e => ?_, fun i d hd => ?_, fun i q hq => ?_, r1.nd, r1.dj, r1.par, r1.len⟩ ⟨rfl, frz_sh hp al h1⟩ (fun q hq => absurd hq (by simp)) (by simp)
    · by_cases hb : b = p
      · subst hb; rw [upd_same] at e; rw [hp]; exact e
      · rw [upd_ne hb] at e; exact r1.sub b o e
    · by_cases hb : b = p
      · subst hb; exact .inr h3
      · rw [upd_ne hb] at e; exact r1.new b o e
    · obtain ⟨u, hu, w⟩ := r1.slots i d hd
      exact ⟨u, hu, ow_mono s2 w fun _ _ => rfl⟩
    · have hb : q ≠ p := fun z => by subst z; exact h4 i hq
      rw [upd_ne hb]
      exact r1.off i q hq⟩
end
def sSetX (i : Nat) (m : MX) : MS := fun s => match m s with
  | .ok d s' => .nx (s'.set i (some d))
  | .ex x s' => .ex x s'
  | .no => .no
def sDropX (m : MX) : MS := fun s => match m s with
  | .ok _ s' => .nx s'
  | .ex x s' => .ex x s'
  | .no => .no
def sRetX (m : MX) : MS := fun s => match m s with
  | .ok d s' => .rt d s'
  | .ex x s' => .ex x s'
  | .no => .no
def sAsgX (m : MX) (g : MG) : MS := fun s => match m s with
  | .ok d s' => (match g d s' with
    | some s2 => .nx s2
    | none => .no)
  | .ex x s' => .ex x s'
  | .no => .no
def sRaise (x : Str) : MS := fun s => .ex ⟨x, []⟩ s
section
variable {K : Fg} {c : Ctx} {Ob O O' : List Kd} {k : Kd} {te : TE} {mx : MX}
theorem c_setX (i : Nat) (h : DX K c O k te mx) (hox : ∀ o, c.Ox = some o → O = o) (hi : i < O.length := by first | decide | exact of_decide_eq_true rfl) (hp : isPm O[i]? = false := by rfl) : DC K c Ob O (tAsg te (gName i)) (sSetX i mx) (O.set i k) := ⟨fun {F H σ fps ds} r E p => by
  unfold sSetX at p
  refine h.run r _ ?_
  cases e : mx ds with
  | no => rw [e] at p; exact p.elim
  | ok d s' =>
    rw [e] at p
    exact fun F1 H1 fps1 v fpv s1 r1 ow hf nd => p F1 H1 _ _ s1 (r1.put hi hp ow (fun q hq => ⟨(hf q hq).1, (hf q hq).2.1, (hf q hq).2.2.1, fun j _ => (hf q hq).2.2.2 j⟩) nd)
  | ex x s' =>
    rw [e] at p
    exact fun F1 H1 fps1 cls dd s1 r1 xo => p F1 H1 σ fps1 O cls dd hox s1 r1 xo⟩
theorem c_retX (h : DX K c O k te mx) (hk : c.rk = k) (hox : ∀ o, c.Ox = some o → O = o) : DC K c Ob O (tRet te) (sRetX mx) O' := ⟨fun {F H σ fps ds} r E p => by
  unfold sRetX at p
  refine h.run r _ ?_
  cases e : mx ds with
  | no => rw [e] at p; exact p.elim
  | ok d s' =>
    rw [e] at p
    refine fun F1 H1 fps1 v fpv s1 r1 ow hf nd => p F1 H1 σ fps1 O v fpv s1 r1 (by rw [hk]; exact ow) (fun q hq => ?_) nd
    obtain ⟨h1, h2, h3, h4⟩ := hf q hq
    exact ⟨h1, h2, h3, fun i _ => h4 i⟩
  | ex x s' => rw [e] at p; exact fun F1 H1 fps1 cls dd s1 r1 xo => p F1 H1 σ fps1 O cls dd hox s1 r1 xo⟩
theorem c_raise {W : WX} {x : Str} {C : Addr} (hW : c.W = W) (hmg : c.mg x = some (.ref C)) (hox : ∀ o, c.Ox = some o → O = o) : DC K c Ob O (fun _ σ H => (fun (_ : St) (H : Hp) (Q : XK) => Q (.ref C) none H) σ H fun cls d H' => W cls d σ H') (sRaise x) O' := ⟨fun {F H σ fps ds} r E p => by
  have := p F H σ fps O (.ref C) none hox (Same.refl _) r ⟨hmg, .inl ⟨rfl, rfl⟩⟩
  rw [hW] at this
  exact this⟩
end
end Z
set_option Elab.async false
set_option linter.all false
set_option maxRecDepth 100000
namespace Z
open PySem L2
section
variable {P : Program} {w : World} {K : Fg} {mg : Str → Option Value} {base : Heap} {x y f g : Str} {st : Stmt} {fa C : Addr} {fd : FuncData} {p1 p2 p3 p4 q1 q2 q3 q4 : Pos}
end
def sRaiseF (x : Str) (fs : List Str) (ml : M (List D)) : MS := fun s => match ml s with
  | .ok vs s' => if vs.length = fs.length then .ex ⟨x, (fs.zip vs).reverse⟩ s' else .no
  | .no => .no
section
variable {K : Fg} {c : Ctx} {Ob O O' : List Kd} {tl : TA} {ml : M (List D)} {W : WX} {x f g : Str} {C : Addr}
end
section
variable {K : Fg} {c : Ctx} {O O1 : List Kd} {F H : Hp} {σ : St} {fps : Nat → List Addr} {ds : DS}
def Ctx.wish (c : Ctx) (W : WX) (o : Option (List Kd)) : Ctx := { c with W := W, Ox := o }
def Ctx.base (c : Ctx) (F : Hp) : Ctx := { c with F0 := F }
theorem Rel.wish (r : Rel K c O F H σ fps ds) (W : WX) (o : Option (List Kd)) : Rel K (c.wish W o) O F H σ fps ds := ⟨r.sub, r.base, r.keep, r.live, r.new, r.slots, r.off, r.nd, r.dj, r.par, r.len⟩
theorem Rel.unwish {W : WX} {o : Option (List Kd)} (r : Rel K (c.wish W o) O F H σ fps ds) : Rel K c O F H σ fps ds := ⟨r.sub, r.base, r.keep, r.live, r.new, r.slots, r.off, r.nd, r.dj, r.par, r.len⟩
theorem Rel.ground (r : Rel K c O F H σ fps ds) : Rel K (c.base F) O F H σ fps ds := ⟨r.sub, Same.refl _, r.keep, r.live, fun _ _ e => .inl e, r.slots, r.off, r.nd, r.dj, r.par, r.len⟩
theorem Rel.unground {F2 H2 : Hp} {σ2 : St} {fps2 : Nat → List Addr} {ds2 : DS} (r : Rel K c O F H σ fps ds) (r2 : Rel K (c.base F) O1 F2 H2 σ2 fps2 ds2) : Rel K c O1 F2 H2 σ2 fps2 ds2 :=
  ⟨r2.sub, r.base.trans r2.base, r2.keep, r2.live, fun b o e => (r2.new b o e).elim (r.new b o) .inr, r2.slots, r2.off, r2.nd, r2.dj, r2.par, r2.len⟩
theorem Rel.gone (r : Rel K c O F H σ fps ds) (i : Nat) {σ' : St} (hσ : ∀ j, j ≠ i → σ'[j]? = σ[j]?) (hl : σ'.length = σ.length) (hp : isPm O[i]? = false) : Rel K c (O.set i .sh) F H σ' (fun j => if j = i then [] else fps j) (ds.set i none) := by
  have hne : ∀ j k', c.pk j = some k' → j ≠ i := fun j k' hjk z => by
    subst z
    obtain ⟨k2, hk2, _⟩ := (r.par j k' hjk).1
    rw [hk2] at hp
    exact absurd hp (by simp [isPm])
  refine ⟨r.sub, r.base, r.keep, r.live, r.new, fun j e hj => ?_, fun j q hq => ?_, fun j => ?_, fun j l hjl q hq hq' => ?_, fun j k' h => ?_, by rw [List.length_set, hl]; exact r.len⟩
  · have z : j ≠ i := fun z => by
      subst z
      by_cases hl : j < ds.length
      · rw [List.getElem?_set_self hl] at hj; cases hj
      · rw [List.getElem?_eq_none (by rw [List.length_set]; omega)] at hj; cases hj
    rw [List.getElem?_set_ne (Ne.symm z)] at hj
    obtain ⟨u, hu, w⟩ := r.slots j e hj
    refine ⟨u, (hσ j z).trans hu, ?_⟩
    rw [getD_set_ne z]
    simp only [if_neg z]
    exact w
  · by_cases z : j = i
    · simp only [z, if_pos] at hq; exact absurd hq (by simp)
    · simp only [if_neg z] at hq
      rw [List.getElem?_set_ne (Ne.symm z)]
      exact r.off j q hq
  · by_cases z : j = i
    · simp only [z, if_pos]; simp
    · simp only [if_neg z]; exact r.nd j
  · by_cases z : j = i
    · simp only [z, if_pos] at hq; exact absurd hq (by simp)
    · by_cases z' : l = i
      · simp only [z', if_pos] at hq'; exact absurd hq' (by simp)
      · simp only [if_neg z] at hq
        simp only [if_neg z'] at hq'
        exact r.dj j l hjl q hq hq'
  · have h' := hne j k' h
    obtain ⟨a, b⟩ := r.par j k' h
    exact ⟨by rw [List.getElem?_set_ne (Ne.symm h')]; exact a, (hσ j h').trans b⟩
end
def clr (i : Nat) : RS → RS
  | .nx s => .nx (s.set i none)
  | .bk s => .bk (s.set i none)
  | .ct s => .ct (s.set i none)
  | .rt d s => .rt d s
  | .ex _ _ => .no
  | .no => .no
def sTryAs (i : Nat) (sub : Str → Option Bool) (b : MS) (su : Xc → MS) : MS := fun s => match b s with
  | .ex x s' => (match sub x.c with
    | some true => clr i (su x (s'.set i (some .none)))
    | some false => .ex x s'
    | none => .no)
  | .nx s' => .nx s'
  | .rt d s' => .rt d s'
  | .bk s' => .bk s'
  | .ct s' => .ct s'
  | .no => .no
def noEx : RS → RS
  | .ex _ _ => .no
  | r => r
def sTryOnly (sub : Str → Option Bool) (b : MS) (su : MS) : MS := fun s => match b s with
  | .ex x s' => (match sub x.c with
    | some true => noEx (su s')
    | some false => .ex x s'
    | none => .no)
  | .nx s' => .nx s'
  | .rt d s' => .rt d s'
  | .bk s' => .bk s'
  | .ct s' => .ct s'
  | .no => .no
section
variable {K : Fg} {c : Ctx} {Ob O O1 : List Kd} {cv : Value} {sub : Str → Option Bool} {tb : WX → TS} {ts : Addr → Value → Option Addr → TS} {Wout : WX} {b : MS} {su : Xc → MS} {sm : MS}
theorem c_tryAs (i : Nat) (hi : i < O.length) (hp : O[i]? = some .sh) (hp1 : O1[i]? = some .sh) (hpb : Ob = [] ∨ Ob[i]? = some .sh) (hsub : ∀ n v, sub n = some v → ∀ cls, c.mg n = some cls → PySem.W.exmOne K cls cv = some v) (hWo : (∀ n, sub n ≠ some false) ∨ (c.W = Wout ∧ ∀ o, c.Ox = some o → O = o))
    (hb : ∀ c' : Ctx, c'.ps = c.ps → c'.rk = c.rk → c'.mg = c.mg → c'.Ox = some O → DC K c' Ob O (tb c'.W) b O1)
    (hs : ∀ (c' : Ctx) (a : Addr) (cls : Value) (d : Option Addr) (x : Xc), c'.ps = c.ps → c'.rk = c.rk → c'.mg = c.mg → sub x.c = some true → ExOk K c'.mg c'.F0 x cls d → DC K c' (Ob.set i (.xr a)) (O.set i (.xr a)) (ts a cls d) (su x) (O1.set i (.xr a))) :
    DC K c Ob O (fun D σ H => tb (wAs K cv i ts Wout D) D σ H) (sTryAs i sub b su) O1 := ⟨fun {F H σ fps ds} r E p => by
  unfold sTryAs at p
  refine (hb (c.wish (wAs K cv i ts Wout E) (some O)) rfl rfl rfl rfl).run (r.wish _ _) E ?_
  cases e : b ds with
  | no => rw [e] at p; exact p
  | nx s' => rw [e] at p; exact fun F' H' σ' fps' s1 r1 => p F' H' σ' fps' s1 r1.unwish
  | bk s' => rw [e] at p; exact fun F' H' σ' fps' s1 r1 => p F' H' σ' fps' s1 r1.unwish
  | ct s' => rw [e] at p; exact fun F' H' σ' fps' s1 r1 => p F' H' σ' fps' s1 r1.unwish
  | rt d s' => rw [e] at p; exact fun F' H' σ' fps' O'' v fpv s1 r1 => p F' H' σ' fps' O'' v fpv s1 r1.unwish
  | ex x s' =>
    rw [e] at p
    dsimp only at p
    refine fun F' H' σ' fps' O'' cls dd hO s1 r1 xo => ?_
    have hO'' : O'' = O := hO O rfl
    subst hO''
    have r1 := r1.unwish
    show wAs K cv i ts Wout E cls dd σ' H'
    have xo' : ExOk K c.mg F' x cls dd := xo
    cases z : sub x.c with
    | none => rw [z] at p; exact p.elim
    | some v =>
      refine ⟨v, hsub _ _ z _ xo'.1, fun hv a ha => ?_, fun hv => ?_⟩
      · subst hv
        rw [z] at p
        dsimp only at p
        have hpm : isPm O''[i]? = false := by rw [hp]; rfl
        have r2 := (r1.put (i := i) (k := .xr a) (v := .ref a) (d := .none) (fpv := []) hi hpm ⟨rfl, rfl⟩ (fun q hq => absurd hq (by simp)) (by simp)).ground
        refine (hs (c.base F') a cls dd x rfl rfl rfl z xo').run r2 _ ?_
        have fin : ∀ {O2 : List Kd} {F3 H3 : Hp} {σ3 : St} {fps3 : Nat → List Addr} {s3 : DS}, i < O2.length → O2[i]? = some .sh → Rel K (c.base F') (O2.set i (.xr a)) F3 H3 σ3 fps3 s3 → Rel K c O2 F3 H3 (σ3.set i none) (fun j => if j = i then [] else fps3 j) (s3.set i none) := fun {O2 F3 H3 σ3 fps3 s3} hl h2 r3 => by
          have r4 := (r1.unground r3).gone (σ' := σ3.set i none) i (fun j hj => List.getElem?_set_ne (Ne.symm hj)) (by simp) (by rw [List.getElem?_set_self hl]; rfl)
          rw [List.set_set] at r4
          have eO : O2.set i .sh = O2 := by
            refine List.ext_getElem? fun j => ?_
            by_cases hj : i = j
            · subst hj; rw [List.getElem?_set_self hl, h2]
            · rw [List.getElem?_set_ne hj]
          rw [eO] at r4
          exact r4
        have lt_of : ∀ {l : List Kd}, l[i]? = some .sh → i < l.length := fun h => (List.getElem?_eq_some_iff.mp h).1
        have finb : ∀ {F3 H3 : Hp} {σ3 : St} {fps3 : Nat → List Addr} {s3 : DS}, Rel K (c.base F') (Ob.set i (.xr a)) F3 H3 σ3 fps3 s3 → Rel K c Ob F3 H3 (σ3.set i none) (fun j => if j = i then [] else fps3 j) (s3.set i none) := fun {F3 H3 σ3 fps3 s3} r3 => by
          rcases hpb with h | h
          · subst h
            have r4 := (r1.unground r3).gone (σ' := σ3.set i none) i (fun j hj => List.getElem?_set_ne (Ne.symm hj)) (by simp) rfl
            exact r4
          · exact fin (lt_of h) h r3
        cases z2 : su x (s'.set i (some .none)) with
        | no => rw [z2] at p; exact p
        | ex y s3 => rw [z2] at p; exact p.elim
        | nx s3 => rw [z2] at p; exact fun F3 H3 σ3 fps3 s31 r3 => p F3 H3 _ _ (s1.trans s31) (fin (lt_of hp1) hp1 r3)
        | bk s3 => rw [z2] at p; exact fun F3 H3 σ3 fps3 s31 r3 => p F3 H3 _ _ (s1.trans s31) (finb r3)
        | ct s3 => rw [z2] at p; exact fun F3 H3 σ3 fps3 s31 r3 => p F3 H3 _ _ (s1.trans s31) (finb r3)
        | rt d s3 => rw [z2] at p; exact fun F3 H3 σ3 fps3 O3 w fpv s31 r3 => p F3 H3 σ3 fps3 O3 w fpv (s1.trans s31) (r1.unground r3)
      · subst hv
        rw [z] at p
        rcases hWo with h | ⟨hWo, hox⟩
        · exact absurd z (h _)
        have := p F' H' σ' fps' O'' cls dd hox s1 r1 xo'
        rw [hWo] at this
        exact this⟩
end
end Z
set_option Elab.async false
set_option linter.all false
set_option maxRecDepth 100000
set_option maxHeartbeats 2000000
namespace ZH
open PySem PySem.Spec PyProof.Rows HotX
section
variable {prog : Program} {w : World} {A : Around} {E : Value → Shared → Prop} {s : Shared} {x1 : Addr}
theorem stop_hot {α : Type} {Q : α → Shared → Prop} (hot : HotAt A x1 s.heap) (hE : ∀ h' e, (∀ b o, s.heap.get? b = some o → h'.get? b = some o) → (∃ o, h'.get? e = some o ∧ o.cls = .type "StopIteration") → E (.ref e) { s with heap := h' }) :
    wpAny (model prog w) A ((do let v ← newExc (.type "StopIteration") []; raiseNew v) : Sem α) Q E s := by
  obtain ⟨hh, o1, vs1, h1, d1, c1⟩ := hot
  refine wpAny_bind ?_; simp only [newExc, newTuple]; refine wpAny_bind (wpAny_newObj_type ?_ (by size_fits)); refine wpAny_bind (m := firstArgMember _ _) (wpAny_of_eq (a := Value.none) (by first | rfl | (simp only [firstArgMember]; rfl)) ?_); refine wpAny_newObj_type ?_ (by size_fits)
  have g1 := Heap.get?_push_of_some (h := s.heap) { cls := .type "tuple", data := .seq (#[] : Array Value) } h1
  refine raiseNew_hot ⟨hh, o1, vs1, Heap.get?_push_of_some _ (Heap.get?_push_of_some _ h1), d1, c1⟩ (Nat.ne_of_lt (Heap.lt_size (Heap.get?_push_of_some _ h1))) (Heap.get?_push_size _ rfl) rfl (by first | (simp; done) | (simp; omega) | (simp only [Array.size_append]; simp; omega)) ?_
  refine hE _ _ (fun b o e => ?_) ⟨_, Heap.get?_update_self _ (Heap.get?_push_size _ rfl) rfl, rfl⟩
  rw [Heap.get?_update_other _ _ (Nat.ne_of_gt (Heap.lt_size (Heap.get?_push_of_some _ e)))]; exact Heap.get?_push_of_some _ (Heap.get?_push_of_some _ e)
end
section
variable {prog : Program} {w : World} {A : Around} {E : Value → Shared → Prop} {s : Shared} {x1 : Addr}
theorem HotAt.ext {h h' : Heap} {it : Addr} (hot : HotAt A x1 h) (hne : x1 ≠ it) (e : Heap.ExtBut it h h') : HotAt A x1 h' := by
  obtain ⟨hh, o1, vs1, h1, d1, c1⟩ := hot
  exact ⟨hh, o1, vs1, e _ _ hne h1, d1, c1⟩
theorem lst_end_hot {it l : Addr} {i : Nat} {items : Array Value} {Q : Value → Shared → Prop} (hot : HotAt A x1 s.heap) (hne : x1 ≠ it) (hit : s.heap.IsListIter it l i) (hl : s.heap.IsList l items) (hx : items[i]? = none)
    (hE : ∀ h' e, Heap.ExtBut it s.heap h' → (∃ o, h'.get? e = some o ∧ o.cls = .type "StopIteration") → E (.ref e) { s with heap := h' }) : wpAny (model prog w) A (Builtin.SmallTypes.nextOf (.ref it)) Q E s := by
  obtain ⟨o, ho, hc, hd⟩ := id hit
  obtain ⟨ol, hol, _, nl, hdl⟩ := hl
  unfold Builtin.SmallTypes.nextOf; refine wpAny_bind (wpAny_callSpecial?_slot (name := Str.ofString "__next__") hit.typeIs slot_listiter_next (wpAny_call_entry slot_listiter_next hit.typeIs entry_listiter_next ?_ (args_listiter_next _)))
  show wpAny _ _ (field (.ref it) 0 >>= _) _ _ _; refine wpAny_bind (wpAny_field ho hd (x := .ref l) rfl ?_); show wpAny _ _ (if (Value.ref l == Value.none) = true then _ else _) _ _ _; rw [if_neg (show ¬ ((Value.ref l == Value.none) = true) from Bool.false_ne_true)]; show wpAny _ _ (field (.ref it) 1 >>= _) _ _ _; refine wpAny_bind (wpAny_field ho hd (x := .int i 0) rfl ?_); show wpAny _ _ (seqItems? (.ref l) >>= _) _ _ _; refine wpAny_bind (wpAny_seqItems hol hdl ?_); simp only [Int.toNat_natCast, hx]
  refine wpAny_bind (wpAny_rule (wpAny_bind (wpAny_setField ho hd (by simp) ?_)))
  have sb := (Heap.SameBut.update s.heap it (Obj.mapFields (·.setIfInBounds 0 Value.none))).extBut
  refine stop_hot (x1 := x1) (HotAt.ext (A := A.in1) hot hne sb) fun h' e k he => hE h' e (fun b o hb q => k b o (sb b o hb q)) he
theorem tup_end_hot {it t : Addr} {i : Nat} {items : Array Value} {Q : Option Value → Shared → Prop} (hot : HotAt A x1 s.heap) (hne : x1 ≠ it) (hit : IsTupIter s.heap it t i) (ht : IsTup s.heap t items) (hx : items[i]? = none)
    (hQ : ∀ h', Heap.ExtBut it s.heap h' → Q none { s with heap := h' }) : wpAny (model prog w) A (pyNext (.ref it)) Q E s := by
  obtain ⟨o, ho, hc, hd⟩ := id hit
  obtain ⟨ol, hol, _, nl, hdl⟩ := ht
  unfold pyNext; refine wpAny_bind (wpAny_attempt (wpAny_callSpecial?_slot (name := Str.ofString "__next__") hit.typeIs slot_tupleiter_next (wpAny_call_entry slot_tupleiter_next hit.typeIs entry_tupleiter_next ?_ (args_tupleiter_next _))))
  show wpAny _ _ (field (.ref it) 0 >>= _) _ _ _; refine wpAny_bind (wpAny_field ho hd (x := .ref t) rfl ?_); show wpAny _ _ (if (Value.ref t == Value.none) = true then _ else _) _ _ _; rw [if_neg (show ¬ ((Value.ref t == Value.none) = true) from Bool.false_ne_true)]; show wpAny _ _ (field (.ref it) 1 >>= _) _ _ _; refine wpAny_bind (wpAny_field ho hd (x := .int i 0) rfl ?_); show wpAny _ _ (seqItems? (.ref t) >>= _) _ _ _; refine wpAny_bind (wpAny_seqItems hol hdl ?_); simp only [Int.toNat_natCast, hx]
  refine wpAny_bind (wpAny_rule (wpAny_bind (wpAny_setField ho hd (by simp) ?_)))
  have sb := (Heap.SameBut.update s.heap it (Obj.mapFields (·.setIfInBounds 0 Value.none))).extBut
  refine stop_hot (x1 := x1) (HotAt.ext (A := A.in1) hot hne sb) fun h' e k he => ?_
  obtain ⟨oe, hoe, hce⟩ := he
  exact wpAny_bind (wpAny_isInstance (T := "StopIteration") (b := true) ⟨oe, hoe, hce⟩ isSubtype_stop (wpAny_pure (hQ _ fun b o hb q => k b o (sb b o hb q))))
theorem unpack_hot {t : Addr} {items : Array Value} {targets : List (Bool × (Value → Sem Unit))} {Q : Unit → Shared → Prop} (hot : HotAt A x1 s.heap) (ht : IsTup s.heap t items) (hn : targets.length = items.size) (hstar : targets.findIdx? (·.1) = none)
    (h : ∀ h', Heap.ExtBut s.heap.objs.size s.heap h' → wpAny (model prog w) A (assignInOrder (targets.map (·.2)) items.toList) Q E { s with heap := h' }) : wpAny (model prog w) A (unpack (.ref t) targets) Q E s := by
  unfold unpack; rw [hn, hstar]; refine wpAny_bind (wpAny_holding ?_)
  have hlt : t ≠ s.heap.objs.size := by obtain ⟨o, ho, _⟩ := ht; exact Nat.ne_of_lt (Heap.lt_size ho)
  have hxl : x1 ≠ s.heap.objs.size := by obtain ⟨_, o, _, ho, _⟩ := hot; exact Nat.ne_of_lt (Heap.lt_size ho)
  unfold unpackItems; refine wpAny_bind ?_
  unfold notIterableAtAll; refine wpAny_bind (wpAny_specialOf ht.typeIs slot_tuple_iter.lookup ?_); refine wpAny_pure ?_; simp only [Bool.false_eq_true, if_false]
  refine wpAny_bind (wpAny_holding (iter_tuple ht ?_)); refine wpAny_bind (wpAny_holding (draw_tuple hlt items.size 0 _ _ ⟨_, Heap.get?_push_size _ rfl, rfl, rfl⟩ (ht.push _) (by omega) fun h₁ hit₁ hs₁ => ?_))
  rw [show List.take items.size (List.drop 0 items.toList) = items.toList by rw [List.drop_zero]; exact List.take_of_length_le (by simp)]; rw [if_neg (by simp)]
  have k1 : ∀ b o, s.heap.get? b = some o → h₁.get? b = some o := fun b o q => hs₁.extBut b o (Nat.ne_of_lt (Heap.lt_size q)) (Heap.get?_push_of_some _ q)
  have hot1 : HotAt A x1 h₁ := by obtain ⟨hh, o1, vs1, h1, d1, c1⟩ := hot; exact ⟨hh, o1, vs1, k1 _ _ h1, d1, c1⟩
  refine wpAny_bind (wpAny_holding (tup_end_hot (s := { s with heap := h₁ }) hot1 hxl hit₁ ((ht.push _).extBut hs₁.extBut hlt) (by simp) fun h₂ he₂ => ?_)); simp only [Option.isSome_none, Bool.false_eq_true, if_false]
  exact wpAny_pure (h h₂ fun b o hb e => he₂ b o hb (hs₁.extBut b o hb (Heap.get?_push_of_some _ e)))
theorem zip_end_hot {z TI TO i1 i2 l1 l2 : Addr} {k1 : Nat} {xs : Array Value} {a b : Value} {Q : Option Value → Shared → Prop} (hot : HotAt A x1 s.heap) (hxz : x1 ≠ z) (hx1 : x1 ≠ i1) (D : ZipApart z TI TO i1 i2 l1 l2) (hz : IsZip s.heap z TI TO .none) (hTI : IsPair s.heap TI (.ref i1) (.ref i2)) (hTO : IsPair s.heap TO a b)
    (h1 : s.heap.IsListIter i1 l1 k1) (hl1 : s.heap.IsList l1 xs) (hend : xs[k1]? = none) (hQ : ∀ h', (∀ c o, c ≠ z → c ≠ TO → c ≠ i1 → c ≠ i2 → s.heap.get? c = some o → h'.get? c = some o) → Q none { s with heap := h' }) : wpAny (model prog w) A (pyNext (.ref z)) Q E s := by
  have hT : s.TypeIs (.ref z) "zip" := ⟨_, hz, rfl⟩
  unfold pyNext; refine wpAny_bind (wpAny_attempt (wpAny_callSpecial?_slot (name := Str.ofString "__next__") hT F.slot_zip_next (wpAny_call_entry F.slot_zip_next hT F.entry_zip_next ?_ (F.args_zip_next_1 _))))
  show wpAny _ _ (field (.ref z) 2 >>= _) _ _ _; refine wpAny_bind (wpAny_field hz rfl (x := .bool false) rfl ?_); show wpAny _ _ (field (.ref z) 3 >>= _) _ _ _; refine wpAny_bind (wpAny_field hz rfl (x := .ref TI) rfl ?_); refine wpAny_bind (wpAny_seqItems hTI rfl ?_); show wpAny _ _ (Builtin.SmallTypes.ownedTupleIsFree (.ref z) >>= _) _ _ _
  refine wpAny_bind ?_; unfold Builtin.SmallTypes.ownedTupleIsFree; refine wpAny_bind (wpAny_field hz rfl (x := .none) rfl (wpAny_pure ?_)); simp only [if_true]; refine wpAny_bind (wpAny_rule ?_); refine wpAny_bind (wpAny_field hz rfl (x := .ref TO) rfl ?_)
  refine wpAny_bind (wpAny_setField_rec hz (by simp) fun h₁ hz₁ hs₁ => ?_); replace hz₁ : IsZip h₁ z TI TO .ellipsis := hz₁; refine wpAny_bind ?_; simp only [List.zipIdx_cons, List.zipIdx_nil, List.forIn_cons, List.forIn_nil]; refine wpAny_bind (wpAny_bind (wpAny_onRaise ?_)); show wpAny _ _ (Builtin.SmallTypes.nextOf (.ref i1) >>= _) _ _ _
  refine wpAny_bind (lst_end_hot (s := { s with heap := h₁ }) (x1 := x1) (HotAt.ext (A := A.in1) hot hxz hs₁.extBut) hx1 (h1.extBut hs₁.extBut D.i1z) (hl1.extBut hs₁.extBut D.l1z) hend fun h₂ e hs₂ he => ?_)
  obtain ⟨oe, hoe, hce⟩ := he
  have hz₂ : IsZip h₂ z TI TO .ellipsis := hs₂ _ _ D.i1z.symm hz₁
  have hez : e ≠ z := fun x => by subst x; rw [hz₂] at hoe; cases hoe; simp at hce
  refine wpAny_setField_rec hz₂ (by simp) fun h₃ _ hs₃ => ?_
  exact wpAny_bind (wpAny_isInstance (T := "StopIteration") (b := true) ⟨oe, hs₃.extBut _ _ hez hoe, hce⟩ isSubtype_stop (wpAny_pure (hQ _ fun c o c1 _ c3 _ q => hs₃.extBut _ _ c1 (hs₂ _ _ c3 (hs₁.extBut _ _ c1 q)))))
end
open L2 L2H
section
variable {X : Cx} {p : Addr × Obj}
theorem hotAt {pins : List (Addr × Obj)} {σ : L2.St} {H : Hp} {s : Shared} (h : Hot1 X.A p) (hp : p ∈ X.pn ++ pins) (I : Inv X pins σ H s) : HotAt X.A p.1 s.heap := by
  obtain ⟨hh, vs, e, c⟩ := h
  exact ⟨hh, p.2, vs, (I.pin p hp).1, e, c⟩
theorem tupTo {pins : List (Addr × Obj)} {s : Shared} {σ : L2.St} {H : Hp} {v : V} {u : Value} {Q : L2.St → Hp → Prop} {es : List Expr} {kk n : Nat} {tpos : Pos} {t : TGs} (hot : Hot1 X.A p) (hp : p ∈ X.pn ++ pins) (hgs : PGs X es t) (hn : (assignEach es X.env).length = n) (hst : (assignEach es X.env).findIdx? (·.1) = none)
    (I : Inv X pins σ H s) (r : RelV v u) (hw : gTup X.K n t v σ H Q) : wpAny (model X.prog X.w) X.A (assign (.Tuple es kk tpos) X.env u) (fun _ s' => ∃ σ' H', Inv X pins σ' H' s' ∧ Q σ' H') X.xe s := by
  obtain ⟨a, xs, rfl, hq, hl, hw⟩ := hw
  cases r
  obtain ⟨its, rv, ht, hz⟩ := I.tuple hq
  rw [assign_Tuple]
  refine wpAny_bind (wpAny_standAt (unpack_hot (hotAt hot hp I) ht (by simp [hn, ← hl, rv.length]) hst fun h' hx => ?_))
  have I1 : Inv X pins σ H { s with heap := h' } := I.kept (t' := s.toks) fun b o e => hx b o (Nat.ne_of_lt (Heap.lt_size e)) e
  exact hgs.run pins _ σ H xs _ Q I1 (by simpa using rv) hw
def ztn (a b z TI TO i1 i2 : Addr) (i : Nat) (h : Heap) : Prop := IsZip h z TI TO .none ∧ IsPair h TI (.ref i1) (.ref i2) ∧ (∃ x y, IsPair h TO x y) ∧ h.IsListIter i1 a i ∧ h.IsListIter i2 b i
theorem ztn_obj {a b z TI TO i1 i2 : Addr} {i : Nat} {h : Heap} (st : ztn a b z TI TO i1 i2 i h) : ∀ c ∈ [z, TI, TO, i1, i2], ∃ o, h.get? c = some o ∧ ∀ v, o.data ≠ .cell v := fun c hc => by
  obtain ⟨hz, hTI, ⟨x, y, hTO⟩, ⟨o1, e1, _, d1⟩, ⟨o2, e2, _, d2⟩⟩ := st
  simp only [List.mem_cons, List.not_mem_nil, or_false] at hc
  rcases hc with rfl | rfl | rfl | rfl | rfl
  · exact ⟨_, hz, fun v q => nomatch q⟩
  · exact ⟨_, hTI, fun v q => nomatch q⟩
  · exact ⟨_, hTO, fun v q => nomatch q⟩
  · exact ⟨o1, e1, fun v q => by rw [d1] at q; cases q⟩
  · exact ⟨o2, e2, fun v q => by rw [d2] at q; cases q⟩
theorem ztn_keep {a b z TI TO i1 i2 : Addr} {i : Nat} {h h' : Heap} (st : ztn a b z TI TO i1 i2 i h) (k : ∀ c ∈ [z, TI, TO, i1, i2], ∀ o, h.get? c = some o → h'.get? c = some o) : ztn a b z TI TO i1 i2 i h' := by
  obtain ⟨hz, hTI, ⟨x, y, hTO⟩, h1, h2⟩ := st
  exact ⟨k z (by simp) _ hz, k TI (by simp) _ hTI, ⟨x, y, k TO (by simp) _ hTO⟩, h1.at fun o q => k i1 (by simp) o q, h2.at fun o q => k i2 (by simp) o q⟩
theorem zitem {elts : List Expr} {kk : Nat} {tpos : Pos} {a b z TI TO i1 i2 : Addr} {i : Nat} {pins : List (Addr × Obj)} {s : Shared} {σ : L2.St} {H : Hp} {E : Value → Shared → Prop} (D : ZipApart z TI TO i1 i2 a b) (I : Inv X pins σ H s) (hf : ∀ c ∈ [z, TI, TO, i1, i2], FpOk X pins H c) (st : ztn a b z TI TO i1 i2 i s.heap)
    (hg : (Itz X.K a b).go i H) : wpAny (model X.prog X.w) X.A (pyNext (.ref z)) (fun r s1 => ∃ u, r = some u ∧ wpAny (model X.prog X.w) X.A (letOwnedTupleGo (.Tuple elts kk tpos) (.ref z) u) (fun _ s2 => ∃ x H', Inv X pins σ H' s2 ∧ RelV x u ∧ (Itz X.K a b).yld i H x H' ∧ ztn a b z TI TO i1 i2 (i + 1) s2.heap ∧ ∀ c ∈ [z, TI, TO, i1, i2], H' c = none) E s1) E s := by
  obtain ⟨hz, hTI, ⟨x0, y0, hTO⟩, h1, h2⟩ := st
  obtain ⟨xs, ys, x, y, hqx, hqy, hx, hy⟩ := hg
  obtain ⟨its, rv, p1, _⟩ := I.list hqx
  obtain ⟨its2, rv2, p2, _⟩ := I.list hqy
  obtain ⟨u, hu, ru⟩ := rv.get hx
  obtain ⟨u2, hu2, ru2⟩ := rv2.get hy
  have hzl : z < s.heap.objs.size := Heap.lt_size hz
  refine wpAny_pyNext_zip_item D hz hTI hTO h1 h2 p1.isList p2.isList (x := u) (y := u2) (by simpa using hu) (by simpa using hu2) fun h' z' TO' h1' h2' hT hsz hk => ⟨_, rfl, wpAny_letOwnedTupleGo_zip (s := { s with heap := h' }) z' fun h'' z'' sb => ?_⟩
  have kk2 : ∀ c o, c ∉ [z, TI, TO, i1, i2] → s.heap.get? c = some o → h''.get? c = some o := fun c o hb q => by
    simp only [List.mem_cons, List.not_mem_nil, or_false, not_or] at hb
    exact (sb.2 c hb.1).trans (hk c o hb.1 hb.2.2.1 hb.2.2.2.1 hb.2.2.2.2 q)
  have hT2 : h''.get? s.heap.objs.size = some { cls := .type "tuple", data := .seq #[u, u2] } := (sb.2 _ (Nat.ne_of_gt hzl)).trans hT
  have I1 : Inv X pins σ (upd H s.heap.objs.size (.tup [x, y])) { s with heap := h'' } := I.turnedNew (t' := s.toks) (ch := [z, TI, TO, i1, i2]) kk2 hf (Nat.le_refl _) ⟨by show 2 ≤ sizeLine; decide, [u, u2], .cons ru (.cons ru2 .nil), ⟨_, hT2, rfl, _, rfl⟩⟩
  refine ⟨.ref s.heap.objs.size, _, I1, rfl, ⟨_, x, y, rfl, I.hok.fresh (Nat.le_refl _), rfl, fun l hl => by rw [I.list_inj hl hqx]; exact hx, fun l hl => by rw [I.list_inj hl hqy]; exact hy⟩, ⟨z'', (sb.2 _ D.TIz).trans (hk _ _ D.TIz D.TITO D.TIi1 D.TIi2 hTI), ⟨u, u2, (sb.2 _ D.TOz).trans TO'⟩, h1'.at fun o q => (sb.2 _ D.i1z).trans q, h2'.at fun o q => (sb.2 _ D.i2z).trans q⟩, fun c hcm => ?_⟩
  obtain ⟨o, eo, _⟩ := ztn_obj (a := a) (b := b) (i := i) ⟨hz, hTI, ⟨x0, y0, hTO⟩, h1, h2⟩ c hcm
  rw [upd_ne (Nat.ne_of_lt (Heap.lt_size eo))]
  exact (hf c hcm).1
theorem zdone {a b z TI TO i1 i2 : Addr} {i : Nat} {pins : List (Addr × Obj)} {s : Shared} {σ : L2.St} {H : Hp} {E : Value → Shared → Prop} {xs : List V} (hot : Hot1 X.A p) (hp : p ∈ X.pn ++ pins) (D : ZipApart z TI TO i1 i2 a b) (I : Inv X pins σ H s) (hf : ∀ c ∈ [z, TI, TO, i1, i2], FpOk X pins H c) (st : ztn a b z TI TO i1 i2 i s.heap)
    (hqx : SqL X.K H a xs) (hl : xs.length ≤ i) : wpAny (model X.prog X.w) X.A (pyNext (.ref z)) (fun r s1 => r = none ∧ Inv X pins σ H s1) E s := by
  obtain ⟨hz, hTI, ⟨x0, y0, hTO⟩, h1, h2⟩ := st
  obtain ⟨its, rv, p1, _⟩ := I.list hqx
  have l1 := rv.length
  have ne : ∀ c ∈ [z, TI, TO, i1, i2], p.1 ≠ c := fun c hc => (hf c hc).2.2.2.2.2 p hp
  exact zip_end_hot (hotAt hot hp I) (ne z (by simp)) (ne i1 (by simp)) D hz hTI hTO h1 p1.isList (by simp; omega) fun h' hk => ⟨rfl, I.turnedL (t' := s.toks) (ch := [z, TI, TO, i1, i2]) (fun c o hb q => by
    simp only [List.mem_cons, List.not_mem_nil, or_false, not_or] at hb
    exact hk c o hb.1 hb.2.2.1 hb.2.2.2.1 hb.2.2.2.2 q) hf⟩
end
section
variable {X : Cx} {p : Addr × Obj}
def Itz1 (K : PySem.W.Frag) (a b : Addr) : It := ⟨(Itz K a b).go, (Itz K a b).yld, fun i H => ∃ xs : List V, SqL K H a xs ∧ xs.length ≤ i⟩
def iZip1 (K : PySem.W.Frag) (ta : TA) : TI := fun σ H R => ta σ H fun vs H1 => ∃ a b xs ys, vs = [.ref a, .ref b] ∧ SqL K H1 a xs ∧ SqL K H1 b ys ∧ R (Itz1 K a b) H1
theorem pe_lcz {elt t1 t2 e1 e2 : Expr} {ifs : List Expr} {scope : Scope} {own : List (Str × Nat)} {pos tpos zp cpos : Pos} {kk : Nat} {ta : TA} {gs : TGs} {tt : TT} {te : TE} (hot : Hot1 X.A p) (hpn : p ∈ X.pn) (hN : X.N.Nodup) (hgz : Gl X "zip") (hmz : X.mg "zip" = none) (ha : PA X [e1, e2] ta) (ok : BlkOk X.N X.env.scope scope own)
    (hg : ∀ (s : Shared) (H : Hp) (C : Addr) (cl : List (Str × Addr)) (fp : List Addr), PGs (X.blk s H scope (compEnvC scope cl C X.env) fp) [t1, t2] gs)
    (hst : ∀ env : Env, (assignEach [t1, t2] env).findIdx? (·.1) = none) (hln : ∀ env : Env, (assignEach [t1, t2] env).length = 2)
    (ht : ∀ (s : Shared) (H : Hp) (C : Addr) (cl : List (Str × Addr)) (fp : List Addr), PTs (X.blk s H scope (compEnvC scope cl C X.env) fp) ifs tt)
    (he : ∀ (s : Shared) (H : Hp) (C : Addr) (cl : List (Str × Addr)) (fp : List Addr), PE (X.blk s H scope (compEnvC scope cl C X.env) fp) elt te)
    (hs : ∀ x, foldedSetIterable (.Call (.Name "zip" zp) [e1, e2] [] cpos) X.env x = pure x := by intro _; rfl)
    (hs1 : starEach [e1, e2] X.env = (false, eval e1 X.env) :: starEach [e2] X.env := by rfl) (hs2 : (backTo cpos (starEach [e2] X.env)).any (·.1) = false := by rfl) :
    PE X (.ListComp elt [⟨.Tuple [t1, t2] kk tpos, .Call (.Name "zip" zp) [e1, e2] [] cpos, ifs, 0⟩] scope pos) (tLc (iZip1 X.K ta) (gTup X.K 2 gs) tt te (own.map (·.2))) := ⟨fun pins s σ H Q I h => by
  rw [eval_ListComp]
  have hfr : ∀ y ∈ scope.names, y.2 = .free → ∃ c, X.env.cells.lookup y.1 = some c := fun y hy e => (ok.free y hy e).elim (fun k => I.ok.has _ (.inl k)) fun k => I.ok.has _ (.inr k)
  refine wpAny_comprehension_free (use := none) rfl hs (closure_ok hfr) ok.kind (fun y hy e => by rw [ok.uniq y hy, e]) ?_
  refine Call_ (ld_blt I hgz hmz PyProof.Rows.boot_zip (PyProof.Rows.callWith_type1 (thn (ha.run cpos pins s σ H _ I h) fun us s1 ⟨vs, H1, I1, r1, q1⟩ => ?_) hs1 hs2))
  obtain ⟨a, b, xs, ys, ex, hqx, hqy, q⟩ := q1
  subst ex
  obtain ⟨u1, u2, rfl, ra, rb⟩ : ∃ u1 u2, us = [u1, u2] ∧ RelV (.ref a) u1 ∧ RelV (.ref b) u2 := by
    cases r1 with | cons r rr => cases rr with | cons r' rr => cases rr; exact ⟨_, _, rfl, r, r'⟩
  obtain rfl : u1 = Value.ref a := ra
  obtain rfl : u2 = Value.ref b := rb
  obtain ⟨its, rv, p1, _⟩ := I1.list hqx
  obtain ⟨its2, rv2, p2, _⟩ := I1.list hqy
  refine call_zip_2 p1.isList p2.isList fun h' hz hTI hTO h1 h2 hsz hk => wpAny_pyIter_zip hz ?_
  have dj : ZipApart (s1.heap.objs.size + 4) (s1.heap.objs.size + 2) (s1.heap.objs.size + 3) s1.heap.objs.size (s1.heap.objs.size + 1) a b := PySem.W.ktu_apart s1.heap.objs.size a b p1.lt p2.lt
  have J0 : Inv X pins σ H1 { s1 with heap := h' } := I1.kept (t' := s1.toks) hk
  have st0 : ztn a b (s1.heap.objs.size + 4) (s1.heap.objs.size + 2) (s1.heap.objs.size + 3) s1.heap.objs.size (s1.heap.objs.size + 1) 0 h' := ⟨hz, hTI, ⟨_, _, hTO⟩, h1, h2⟩
  have fok : ∀ c ∈ [s1.heap.objs.size + 4, s1.heap.objs.size + 2, s1.heap.objs.size + 3, s1.heap.objs.size, s1.heap.objs.size + 1], FpOk X pins H1 c := fun c hc => by
    have hle : s1.heap.objs.size ≤ c := by simp only [List.mem_cons, List.not_mem_nil, or_false] at hc; omega
    exact I1.fpOk hle (I1.hok.fresh hle)
  generalize s1.heap.objs.size + 4 = z at *
  generalize s1.heap.objs.size + 2 = TI at *
  generalize s1.heap.objs.size + 3 = TO at *
  generalize s1.heap.objs.size + 1 = i2 at *
  generalize s1.heap.objs.size = i1 at *
  generalize hs2e : ({ s1 with heap := h' } : Shared) = s2 at J0 ⊢
  have st0 : ztn a b z TI TO i1 i2 0 s2.heap := by rw [← hs2e]; exact st0
  clear hk hz hTI hTO h1 h2 hs2e
  refine wpAny_newObj_type (newEnv_comp ?_) (by show 0 ≤ sizeLine; decide)
  generalize hD : s2.heap.objs.size = D
  have hDn : H1 D = none := J0.hok.fresh (Nat.le_of_eq hD)
  obtain ⟨W, ⟨m0, w0⟩, turn⟩ := q D hDn
  generalize hs3 : ({ s2 with heap := s2.heap.push { cls := .type "list", data := .seq ([] : List Value).toArray } } : Shared) = s3
  have e3 : s3.heap = s2.heap.push { cls := .type "list", data := .seq ([] : List Value).toArray } := by rw [← hs3]
  have J1 : Inv X pins σ (upd H1 D (.lst [])) s3 := by
    rw [← hs3]
    refine J0.laid (t' := s2.toks) (fun c o e => Heap.get?_push_of_some _ e) (Nat.le_of_eq hD) ⟨Nat.zero_le _, [], 0, .nil, ?_⟩
    rw [← hD]; exact Heap.get?_push_size _ rfl
  have fok3 : ∀ c ∈ [z, TI, TO, i1, i2], FpOk X pins (upd H1 D (.lst [])) c ∧ c < s3.heap.objs.size := fun c hc => by
    obtain ⟨o, eo, _⟩ := ztn_obj st0 c hc
    have hlt := Heap.lt_size eo
    refine ⟨⟨?_, (fok c hc).2⟩, by rw [e3, Heap.size_push]; exact Nat.lt_succ_of_lt hlt⟩
    rw [upd_ne (by rw [← hD]; exact Nat.ne_of_lt hlt)]; exact (fok c hc).1
  have st3 : ztn a b z TI TO i1 i2 0 s3.heap := ztn_keep st0 fun c _ o e => by rw [e3]; exact Heap.get?_push_of_some _ e
  have J2 := block_start J1 ok hN fok3
  show codeAny _ _ (.compStart (.ListComp elt [⟨.Tuple [t1, t2] kk tpos, .Call (.Name "zip" zp) [e1, e2] [] cpos, ifs, 0⟩] scope pos) 0 (.ref z) (.ref D) (compEnvC scope (cellsFrom (s3.heap.objs.size + 1) scope.names (cloFrom X.env.cells scope.names [])) s3.heap.objs.size X.env)) (compPost (model X.prog X.w) X.A X.xe none (EP X pins σ Q) (.ref D) s3.heap.objs.size) { s3 with heap := pushCells (s3.heap.push { cls := .type "dict", data := .dict #[] }) scope.names }
  have jg := hg s3 (upd H1 D (.lst [])) s3.heap.objs.size (cellsFrom (s3.heap.objs.size + 1) scope.names (cloFrom X.env.cells scope.names [])) [z, TI, TO, i1, i2]
  have jt := ht s3 (upd H1 D (.lst [])) s3.heap.objs.size (cellsFrom (s3.heap.objs.size + 1) scope.names (cloFrom X.env.cells scope.names [])) [z, TI, TO, i1, i2]
  have je := he s3 (upd H1 D (.lst [])) s3.heap.objs.size (cellsFrom (s3.heap.objs.size + 1) scope.names (cloFrom X.env.cells scope.names [])) [z, TI, TO, i1, i2]
  have hno : ∀ c ∈ [z, TI, TO, i1, i2], (upd H1 D (.lst [])) c = none := fun c hc => (fok3 c hc).1.1
  generalize hce : compEnvC scope (cellsFrom (s3.heap.objs.size + 1) scope.names (cloFrom X.env.cells scope.names [])) s3.heap.objs.size X.env = ce at J2 jg jt je ⊢
  have cL : ce.locals = s3.heap.objs.size := by subst hce; rfl
  generalize hH3 : upd H1 D (.lst []) = H3 at J1 J2 jg jt je w0 hno fok3
  generalize hs4 : ({ s3 with heap := pushCells (s3.heap.push { cls := .type "dict", data := .dict #[] }) scope.names } : Shared) = s4 at J2 ⊢
  have st4 : ztn a b z TI TO i1 i2 0 s4.heap := ztn_keep st3 fun c _ o e => by rw [← hs4]; exact pushCells_keeps _ _ _ _ (Heap.get?_push_of_some _ e)
  have P3 := J1.pin p (List.mem_append_left _ hpn)
  have J3 : Inv (X.blk s3 H3 scope ce [z, TI, TO, i1, i2]) [p] (wipe σ (own.map (·.2))) H3 s4 := J2.pins_of fun p' hp' => by
    have : p' = p := by simpa using hp'
    subst this
    refine ⟨by rw [← hs4]; exact pushCells_keeps _ _ _ _ (Heap.get?_push_of_some _ P3.1), P3.2.1, ?_, ?_, P3.2.2.2.2⟩
    · show p'.1 ≠ ce.locals
      rw [cL]; exact Nat.ne_of_lt (Heap.lt_size P3.1)
    · exact fun hm => (List.mem_cons.mp (J1.stkSub p'.1 hm)).elim P3.2.2.1 P3.2.2.2.1
  have pin1 : p ∈ (X.blk s3 H3 scope ce [z, TI, TO, i1, i2]).pn ++ [p] := by simp
  have fokB : ∀ {σ' : L2.St} {H' : Hp} {s' : Shared}, Inv (X.blk s3 H3 scope ce [z, TI, TO, i1, i2]) [p] σ' H' s' → (∀ c ∈ [z, TI, TO, i1, i2], H' c = none) → ∀ c ∈ [z, TI, TO, i1, i2], FpOk (X.blk s3 H3 scope ce [z, TI, TO, i1, i2]) [p] H' c := fun {σ' H' s'} J hn c hc =>
    ⟨hn c hc, (J.ok.exf c hc).1, J.ok.exfs c hc, .inl hc, fun x c' e => (J.ok.exf c hc).2 x c' e, fun p' hp' => by
      have : p' = p := by simpa using (show p' ∈ ([] : List (Addr × Obj)) ++ [p] from hp')
      subst this
      exact (fok3 c hc).1.2.2.2.2.2 p' (List.mem_append_left _ hpn)⟩
  have loop : codeAny (model X.prog X.w) X.A (.compLoop (.ListComp elt [⟨.Tuple [t1, t2] kk tpos, .Call (.Name "zip" zp) [e1, e2] [] cpos, ifs, 0⟩] scope pos) 0 (.ref z) (.ref D) ce) (compPost (model X.prog X.w) X.A X.xe none (EP X pins σ Q) (.ref D) s3.heap.objs.size) s4 := by
    refine compLoop_any (fun n s' => ∃ i H', Inv (X.blk s3 H3 scope ce [z, TI, TO, i1, i2]) [p] (wipe σ (own.map (·.2))) H' s' ∧ ztn a b z TI TO i1 i2 i s'.heap ∧ (∀ c ∈ [z, TI, TO, i1, i2], H' c = none) ∧ W i n H') ?_ m0 ⟨0, H3, J3, st4, hno, w0⟩
    rintro n s5 ⟨i, H5, J5, st5, n5, w5⟩
    rcases turn i n H5 w5 with ⟨stop, qq⟩ | ⟨go, Nx, hNx, step⟩
    · obtain ⟨xs', hq', hl'⟩ := stop
      refine thnF (zdone (X := X.blk s3 H3 scope ce [z, TI, TO, i1, i2]) (E := fun _ _ => False) hot pin1 dj J5 (fokB J5 n5) st5 hq' hl') fun r s6 ⟨hr, J6⟩ => ?_
      subst hr
      have J7 : Inv X pins σ H5 s6 := J1.call' (ch := [z, TI, TO, i1, i2]) J6.os J6.base J6.hok J6.bare fun c hc => ⟨(fok3 c hc).1.2.2.2.1, (fok3 c hc).1.2.1, (fok3 c hc).1.2.2.2.2.1, (fok3 c hc).1.2.2.2.2.2⟩
      have nC : H5 s3.heap.objs.size = none := by have y : H5 ce.locals = none := J6.free; rw [cL] at y; exact y
      obtain ⟨m, hn, _⟩ := J6.loc
      have hn : s6.heap.Ns ce.locals m := hn
      rw [cL] at hn
      refine ⟨m, hn, fun h'' sb => ?_⟩
      obtain ⟨f0, f1, f2, f3, f4, f5⟩ := J1.fpOk (H' := H5) (Nat.le_refl _) nC
      exact ⟨.ref D, H5, J7.turned (t' := s6.toks) (fun c o hb e => (sb.2 c hb).trans e) f0 f1 f3 f4 f5, rfl, qq⟩
    · refine thnF (zitem (X := X.blk s3 H3 scope ce [z, TI, TO, i1, i2]) (E := fun _ _ => False) (elts := [t1, t2]) (kk := kk) (tpos := tpos) dj J5 (fokB J5 n5) st5 go) fun r s6 ⟨u, hr, h6⟩ => ?_
      subst hr
      refine thnF h6 fun _ s7 ⟨x, H7, J7, r7, y7, st7, n7⟩ => ?_
      have J7' := J7.pinned (fokB J7 n7) (ztn_obj st7)
      refine thnF (tupTo (X := X.blk s3 H3 scope ce [z, TI, TO, i1, i2]) hot (by simp) jg (hln _) (hst _) J7' r7 (step x H7 y7)) fun _ s8 ⟨σ8, H8, J8, hw8, q8⟩ => ?_
      refine thnF (jt.run _ s8 σ8 H8 _ J8 q8) fun bb s9 ⟨H9, J9, q9⟩ => ?_
      have fin : ∀ {s' : Shared} {H' : Hp}, Inv (X.blk s3 H3 scope ce [z, TI, TO, i1, i2]) ([p] ++ pinsAt [z, TI, TO, i1, i2] s7.heap) σ8 H' s' → Nx H' → ∃ m, m < n ∧ ∃ i H', Inv (X.blk s3 H3 scope ce [z, TI, TO, i1, i2]) [p] (wipe σ (own.map (·.2))) H' s' ∧ ztn a b z TI TO i1 i2 i s'.heap ∧ (∀ c ∈ [z, TI, TO, i1, i2], H' c = none) ∧ W i m H' := fun {s' H'} J' nx => by
        obtain ⟨m', hm, w'⟩ := hNx H' nx
        have pin' : ∀ c ∈ [z, TI, TO, i1, i2], ∀ o, s7.heap.get? c = some o → s'.heap.get? c = some o ∧ H' c = none := fun c hc o e => let y := J'.pin (c, o) (List.mem_append_right _ (List.mem_append_right _ (mem_pinsAt hc e))); ⟨y.1, y.2.1⟩
        refine ⟨m', hm, i + 1, H', (J'.unpinned (pins := [p])).weak (by rw [← hw8, wipe_length]) (fun j v e => ?_), ztn_keep st7 fun c hc o e => (pin' c hc o e).1, fun c hc => ?_, w'⟩
        · rw [← hw8] at e; exact (wipe_some e).1
        · obtain ⟨o, e, _⟩ := ztn_obj st7 c hc; exact (pin' c hc o e).2
      cases bb with
      | false => simp only [Bool.false_eq_true, if_false] at q9 ⊢; exact fin J9 q9
      | true =>
        simp only [if_true] at q9 ⊢
        exact thnF (je.run _ s9 σ8 H9 _ J9 q9) fun y s10 ⟨yv, H10, J10, r10, acc, hD10, hz10, nx⟩ => app_ok (X := X.blk s3 H3 scope ce [z, TI, TO, i1, i2]) J10 hD10 hz10 r10 fun s11 J11 => fin J11 nx
  exact codeAny_compStart_list loop (wpAny_pyIter_zip st4.1 loop)⟩
end
end ZH
set_option Elab.async false
set_option linter.all false
set_option maxRecDepth 100000
set_option maxHeartbeats 2000000
namespace ZH
open PySem PySem.Spec PyProof.Rows HotX L2 L2H
abbrev SpN := Addr → Value → Option Addr → Hp → VK → Prop
structure FnN (P : Program) (w : World) (K : PySem.W.Frag) (mg : Str → Option Value) (base : Heap) (k : Nat) (f : Addr) (fd : FuncData) (x : Str) (sp : SpN) : Prop where
  run : ∀ (A : Around) (outer : List Env) (s : Shared) (H : Hp) (args : Args) (p : Addr × Obj) (cls : Value) (dd : Option Addr) (Q : VK), RoomH k A → Hot1 A p → PinOk outer H s p → Zc cls dd p.2 → (∃ vs, p.2.data = .fields vs) →
    Env0 P w K mg base A outer s H → BindsTo s fd args [(x, .ref p.1)] → sp p.1 cls dd H Q → codeAny (model P w) A (.call (.ref f) args) (CR CX0 outer P w H s Q E0) s
theorem fn_ofN {P : Program} {w : World} {K : PySem.W.Frag} {mg : Str → Option Value} {base : Heap} {k : Nat} {f : Addr} {x y z : Str} {st : Stmt} {fd : FuncData} {N : List Str} {sp : SpN} (F : FunD K x y (defArgs st) (defBody st) (defScope st) [] [] f fd) (S : FnScope N [z] (defScope st))
    (hbody : ∀ (cdv : Value) (A : Around) (outer : List Env) (s : Shared) (H : Hp) (p : Addr × Obj) (cls : Value) (dd : Option Addr) (Q : VK), Hot1 A p → Zc cls dd p.2 → (∃ vs, p.2.data = .fields vs) → RoomH k (A.deeper (envOfC y (defScope st) s.heap.objs.size f cdv)) → sp p.1 cls dd H Q →
      ∃ t, PSs (cxH CX0 P w K mg base N y (defScope st) f cdv A outer s H E0 p) (defBody st) t ∧ t { nx := fun _ H' => Q .non H', rt := Q } (L2.start N [.ref p.1]) H) : FnN P w K mg base (k + 1) f fd z sp := by
  obtain ⟨oc, od, dV, kV, doc, pm, an, cdv, ct, osl, rfl, lk, hcd, hdv, hkv⟩ := F.ex
  refine ⟨fun A outer s H args p cls dd Q hr hot hpin hz hf e0 hb hsp => ?_⟩
  have KX : K.In s.heap := e0.mod.kin.keeps fun b o e => (e0.bs b o e).1
  have lim : s.heap.NoLimit := e0.mod.nolimit.keeps fun b o e => (e0.bs b o e).1
  refine codeAny_call_function hr.depth (KX _ _ lk) rfl S.co S.gen rfl (PySem.W.codeRec_of KX hcd) (hb _ _ _ _ ?_)
  refine wpAny_newFunctionEnv_cells S.kind (fun v hv => ?_) fun env he s1 ic => ?_
  · rcases S.par v.1 (by have : v = (z, Value.ref p.1) := by simpa using hv
                         rw [this]; simp) with q | q
    · exact .inl q
    · exact .inr ⟨q, PySem.W.cellsFrom_some _ _ _ (.inl q)⟩
  · subst he
    refine ⟨lim.keeps ic.toInCall.keep, codeAny_func ?_⟩
    obtain ⟨t, ht, hq⟩ := hbody cdv A outer s H p cls dd Q hot hz hf (hr.deeper _) hsp
    have J : Inv (cxH CX0 P w K mg base N y (defScope st) f cdv A outer s H E0 p) [] (L2.start N [.ref p.1]) H s1 := inv_startH (us := [.ref p.1]) (vs := [.ref p.1]) S hpin e0 rfl (.cons rfl .nil) ic
    refine wpAny_mono (ht.run [] s1 (L2.start N [.ref p.1]) H _ J hq) (fun fl s' hs => ?_) fun e s' hs => hs
    cases fl with
    | ret u => obtain ⟨v, σ', H', J, rv, q⟩ := hs; exact ⟨v, H', J.os, J.bare, J.base, J.hok, rv, q⟩
    | next => obtain ⟨σ', H', J, q⟩ := hs; exact ⟨.non, H', J.os, J.bare, J.base, J.hok, rfl, q⟩
    | brk => obtain ⟨_, _, _, q⟩ := hs; exact q.elim
    | cont => obtain ⟨_, _, _, q⟩ := hs; exact q.elim
theorem takesN0 {X : Cx} : L2N.Takes X (fun _ _ _ _ => False) := fun _ _ ⟨_, _, _, _, _, _, _, _, _, _, _, _, _, _, _, _, z⟩ => z.elim
section
variable {X : Cx} {CX : CXT} {k : Nat} {f C : Addr} {fd : FuncData} {ps : List Str} {sp : Sp} {E : L2.St → XK} {m : Str} {pos apos : Pos} {e o : Expr} {es : List Expr} {ta : TE} {t : TA}
end
structure ExT (K : PySem.W.Frag) (D : Addr) : Prop where
  cl : (PySem.W.clsIn K D).isSome = true
  ga : PySem.W.findIn K (.ref D) "__getattribute__" = some (some (.builtin "BaseException.__getattribute__"))
  gt : PySem.W.findIn K (.ref D) "__getattr__" = some none
  sb : PySem.W.subIn K (.ref D) (.type "BaseException") = some true
  ca : PySem.W.findIn K (.ref D) "__class__" = some (some (.builtin "object.__class__"))
  sg : PySem.W.specialIn K (.builtin "object.__class__") "__get__" = some (some (.builtin "getset_descriptor.__get__"))
  tk : PySem.W.takesIn K (.builtin "object.__class__") = some true
  mo : PySem.W.mroIn K D (.type "object") = some true
  hd : PySem.W.hasDictIn K D = true
def extB (K : PySem.W.Frag) (D : Addr) : Bool := (PySem.W.clsIn K D).isSome && (decide (PySem.W.findIn K (.ref D) "__getattribute__" = some (some (.builtin "BaseException.__getattribute__"))) && (decide (PySem.W.findIn K (.ref D) "__getattr__" = some none) && (decide (PySem.W.subIn K (.ref D) (.type "BaseException") = some true) && (decide (PySem.W.findIn K (.ref D) "__class__" = some (some (.builtin "object.__class__"))) &&
  (decide (PySem.W.specialIn K (.builtin "object.__class__") "__get__" = some (some (.builtin "getset_descriptor.__get__"))) && (decide (PySem.W.takesIn K (.builtin "object.__class__") = some true) && (decide (PySem.W.mroIn K D (.type "object") = some true) && PySem.W.hasDictIn K D)))))))
theorem extB_ok {K : PySem.W.Frag} {D : Addr} (h : extB K D = true) : ExT K D := by
  unfold extB at h
  simp only [Bool.and_eq_true, decide_eq_true_eq] at h
  obtain ⟨h1, h2, h3, h4, h5, h6, h7, h8, h9⟩ := h
  exact ⟨h1, h2, h3, h4, h5, h6, h7, h8, h9⟩
def rIsX (K : PySem.W.Frag) (a : Addr) (cls : Value) (dd : Option Addr) : List V → Hp → VK → Prop := fun xs H Q => ∃ (D : Addr) (c : V) (cv : Value) (b : Bool), cls = .ref D ∧ ExT K D ∧ (∀ d, dd = some d → ∃ fs, H d = some (.xd fs)) ∧ xs = [.ref a, c] ∧ (∀ u, RelV c u → u = cv) ∧ PySem.W.kitOne K (.ref D) cv = some b ∧ Q (.bl b) H
theorem call_isX {X : Cx} {a : Addr} {oe : Obj} {cls : Value} {dd : Option Addr} (hp : (a, oe) ∈ X.pn) (hz : Zc cls dd oe) (hf : ∃ vs, oe.data = .fields vs) : CallR X (.builtin "isinstance") (rIsX X.K a cls dd) := by
  intro pins s σ H xs us Q I r h
  obtain ⟨D, c, cv, b, rfl, T, hd, rfl, hcv, e, q⟩ := h
  cases r with
  | cons rx rr =>
    cases rr with
    | cons rt rr =>
      cases rr
      cases rx
      have ec := hcv _ rt
      subst ec
      obtain ⟨hget, _⟩ := I.pin (a, oe) (List.mem_append_left _ hp)
      obtain ⟨vs, hv⟩ := hf
      have fin : ∀ od, PySem.W.InstAt s.heap a oe D od → wpAny (model X.prog X.w) X.A (call (.builtin "isinstance") [Value.ref a, _]) (EP X pins σ Q) X.xe s := fun od J =>
        PySem.W.kia_one (PySem.W.kitx_exc T.cl T.ga T.gt T.sb T.ca T.sg T.tk T.mo) I.kIn J e (fun z => nomatch z) fun tk => ⟨.bl b, H, I.kept (t' := tk) fun _ _ z => z, rfl, q⟩
      cases dd with
      | none => exact fin none ⟨hget, hz.1, by unfold PySem.W.notCls; rw [hv] <;> rfl, by rw [hz.2]; trivial⟩
      | some d =>
        obtain ⟨fs, hfs⟩ := hd d rfl
        obtain ⟨mA, hns, hr⟩ : ObjOk X.prog X.w H s.heap d (.xd fs) := I.hok d _ hfs
        obtain ⟨od, ho, hl⟩ := lookIn_ns hns
        exact fin (some od) ⟨hget, hz.1, by unfold PySem.W.notCls; rw [hv] <;> rfl, by rw [hz.2]; exact ho⟩
def tCallN (a : Addr) (cls : Value) (dd : Option Addr) (sp : SpN) (te : TE) : TE := fun σ H Q => te σ H fun v H1 => v = .ref a ∧ sp a cls dd H1 Q
theorem pe_callN {X : Cx} {a : Addr} {oe : Obj} {cls : Value} {dd : Option Addr} {pn : List (Addr × Obj)} {k : Nat} {f : Addr} {fd : FuncData} {x z : Str} {sp : SpN} {e : Expr} {te : TE} {q pos : Pos} (F : FnN X.prog X.w X.K X.mg X.base k f fd z sp) (hr : Room k X.A) (hz : L2N.Zn cls dd oe) (hf : ∃ vs, oe.data = .fields vs) (hg : Gl X x) (hm : X.mg x = some (.ref f))
    (hk : PySem.W.keepIn X.K (.ref f) = true) (hb : Binds X.K fd [z] []) (hap : PA (X.suite a ((a, oe) :: pn)) [e] (tCons te tNil)) (hdb : (x == ("__debug__" : Str)) = false := by decide) (hst : starEach [e] X.env = (false, eval e X.env) :: starEach [] X.env := by rfl) (hpl : (backTo pos (starEach ([] : List Expr) X.env)).any (·.1) = false := by rfl) :
    PE (X.suite a ((a, oe) :: pn)) (.Call (.Name x q) [e] [] pos) (tCallN a cls dd sp te) := ⟨fun pins s σ H Q I h => by
  refine wpAny_Call_Name_kw (ld_glob I hg hm (PySem.W.callWith_K (h₀ := X.base) I.ok.mod.kin hk (thn (hap.run pos pins s σ H (fun vs H1 => vs = [.ref a] ∧ sp a cls dd H1 Q) I ?_) fun us s1 ⟨vs, H1, I1, r, ev, qq⟩ => ⟨I1.kIn, ?_⟩) hst hpl) hdb)
  · show te σ H _
    have h' : te σ H fun v H1 => v = .ref a ∧ sp a cls dd H1 Q := h
    refine (?_ : (fun v H1 => v = V.ref a ∧ sp a cls dd H1 Q) = fun v H1 => (tNil σ H1 fun vs H2 => (v :: vs) = [V.ref a] ∧ sp a cls dd H2 Q)) ▸ h'
    funext v H1
    exact propext ⟨fun ⟨e1, e2⟩ => ⟨by rw [e1], e2⟩, fun ⟨e1, e2⟩ => ⟨by cases e1; rfl, e2⟩⟩
  · subst ev
    obtain ⟨u, rfl, ru⟩ : ∃ u, us = [u] ∧ RelV (.ref a) u := by cases r with | cons r rr => cases rr; exact ⟨_, rfl, r⟩
    obtain rfl : u = Value.ref a := ru
    obtain ⟨vs, hv⟩ := hf
    have P1 := I1.pin (a, oe) (List.mem_append_left _ List.mem_cons_self)
    have hot : Hot1 (X.suite a ((a, oe) :: pn)).A (a, oe) := ⟨rfl, vs, hv, hz.2.2 vs hv⟩
    have b := hb s1 [.ref a] I1.kIn rfl
    rw [List.append_nil] at b
    refine wpAny_call (codeAny_mono (F.run _ X.stack s1 H1 ⟨[.ref a], []⟩ (a, oe) cls dd Q ⟨hr.dp, hr.un⟩ hot ⟨P1.1, P1.2.1, fun hmm => (List.mem_cons.mp (I1.stkSub a hmm)).elim P1.2.2.1 P1.2.2.2.1, P1.2.2.2.2⟩ hz.zc ⟨vs, hv⟩ I1.env0 b qq) fun r s' hq => ?_)
    cases r with
    | error e => exact pass0 _ _ _ _ _ _ I1 hq
    | ok fl =>
      cases fl with
      | ret u => exact I1.after hq
      | next => exact hq.elim
      | brk => exact hq.elim
      | cont => exact hq.elim⟩
end ZH
set_option Elab.async false
set_option linter.all false
set_option maxRecDepth 100000
set_option maxHeartbeats 1000000
namespace Z
open PySem L2
def zipD (xs ys : List D) : List D := List.zipWith (fun x y => .tuple [x, y]) xs ys
def twoL : List D → Option (List D × List D)
  | [.list xs, .list ys] => some (xs, ys)
  | _ => none
def mZip (ml : M (List D)) : M (List D) := bnd ml fun es => opt ((twoL es).map fun p => zipD p.1 p.2)
def twoLe (es : List D) : Option (List D × List D) := match twoL es with
  | some p => if p.1.length ≤ p.2.length then some p else none
  | none => none
def mZip1 (ml : M (List D)) : M (List D) := bnd ml fun es => opt ((twoLe es).map fun p => zipD p.1 p.2)
theorem twoL_eq {es : List D} {p : List D × List D} (h : twoL es = some p) : es = [.list p.1, .list p.2] := by
  unfold twoL at h
  split at h
  · cases h; rfl
  · cases h
section
variable {K : Fg} {c : Ctx} {O : List Kd}
theorem zip_go {F : Hp} {a b : Addr} {xs ys : List V} {es fs : List D} (hq : SqL K F a xs) (hr : SqL K F b ys) (al : DpAll K F xs es) (bl : DpAll K F ys fs) {F1 H1 : Hp} {i : Nat} (s1 : Same F F1) (s2 : Same F1 H1) {d : D} (hd : (zipD es fs)[i]? = some d) :
    (Itz K a b).go i H1 ∧ ∀ x H2, (Itz K a b).yld i H1 x H2 → ∃ F2, Grow F1 H1 F2 H2 ∧ Dp K F2 x d := by
  have hq1 := sqL_mono s2 (sqL_mono s1 hq)
  have hr1 := sqL_mono s2 (sqL_mono s1 hr)
  unfold zipD at hd
  rw [List.getElem?_zipWith] at hd
  cases hx : es[i]? with
  | none => rw [hx] at hd; cases hd
  | some x =>
    cases hy : fs[i]? with
    | none => rw [hx, hy] at hd; cases hd
    | some y =>
      rw [hx, hy] at hd
      cases hd
      obtain ⟨v, hv, dp⟩ := dpa_get al hx
      obtain ⟨u, hu, dq⟩ := dpa_get bl hy
      refine ⟨⟨xs, ys, v, u, hq1, hr1, hv, hu⟩, fun z H2 hz => ?_⟩
      obtain ⟨T, x', y', rfl, hT, rfl, hx', hy'⟩ := hz
      have e1 := hx' xs hq1
      have e2 := hy' ys hr1
      rw [hv] at e1
      rw [hu] at e2
      cases e1
      cases e2
      have s3 : Same F1 (upd F1 T (.tup [v, u])) := same_upd (s2.free hT)
      exact ⟨_, .new _ hT, .tup (SqT.of upd_same) (.cons (dp_mono s3 (dp_mono s1 dp)) (.cons (dp_mono s3 (dp_mono s1 dq)) .nil))⟩
theorem zipD_len {es fs : List D} : (zipD es fs).length = min es.length fs.length := by unfold zipD; rw [List.length_zipWith]
theorem i_zip1 {tl : TA} {ml : M (List D)} (h : DA K c O tl ml) : DI K c O (ZH.iZip1 K tl) (mZip1 ml) := ⟨fun {F H σ fps ds ds' xs} r e R q => by
  obtain ⟨es, s1, e1, g1⟩ := bnd_ok e
  obtain ⟨g2, z⟩ := opt_ok g1
  subst z
  unfold twoLe at g2
  cases hp : twoL es with
  | none => rw [hp] at g2; cases g2
  | some p =>
    rw [hp] at g2
    dsimp only at g2
    split at g2
    · rename_i hle
      cases g2
      have he := twoL_eq hp
      refine h.run r e1 _ fun F1 H1 fps1 vs sF r1 al => ?_
      subst he
      cases al with
      | cons dp al =>
        cases al with
        | cons dq al =>
          cases al
          cases dp with
          | lst hq al =>
            cases dq with
            | lst hr bl =>
              refine ⟨_, _, _, _, rfl, sqL_mono r1.sub hq, sqL_mono r1.sub hr, q F1 H1 fps1 _ sF r1 fun F2 H2 i s1 s2 => ⟨fun d hd => zip_go hq hr al bl s1 s2 hd, fun hi => ⟨_, sqL_mono s2 (sqL_mono s1 hq), ?_⟩⟩⟩
              rw [zipD_len] at hi
              have l1 := dpa_len al
              omega
    · cases g2⟩
def strsD : List D → Option (List Str)
  | [] => some []
  | .str x :: r => (strsD r).map (x :: ·)
  | _ => none
def joinD (sep : Str) (d : D) : Option D := match d with
  | .list ds => match strsD ds with
    | some ys => if (ys.map (·.length)).sum + ys.length * sep.length ≤ 16777216 then some (.str (PySem.Txt.join sep ys)) else none
    | none => none
  | _ => none
def mJoin (sep : Str) (m : M D) : M D := bnd m fun d => opt (joinD sep d)
theorem strs_dp {F : Hp} : ∀ {vs : List V} {ds : List D} {ys : List Str}, DpAll K F vs ds → strsD ds = some ys → vs = ys.map V.str
  | _, _, _, .nil, e => by cases e; rfl
  | _, _, _, .cons (d := d) dp al, e => by
    cases d with
    | str x =>
      unfold strsD at e
      rename_i vs ds
      cases z : strsD ds with
      | none => rw [z] at e; cases e
      | some r =>
        rw [z] at e
        cases e
        cases dp
        rw [strs_dp al z]
        rfl
    | _ => cases e
theorem d_join {sep : Str} {te : TE} {m : M D} (h : DE K c O te m) : DE K c O (tBM K "str" (fun x xs H Q => ∃ a p, ∃ ys : List Str, x = .str a ∧ xs = [.ref p] ∧ (SqL K H p (ys.map V.str) ∨ SqT K H p (ys.map V.str)) ∧ (ys.map (·.length)).sum + ys.length * a.length ≤ 16777216 ∧ Q (.str (PySem.Txt.join a ys)) H) (tC (.str sep)) (tCons te tNil)) (mJoin sep m) := ⟨fun {F H σ fps ds ds' d} r e Q q => by
  obtain ⟨x, s1, e1, g1⟩ := bnd_ok e
  obtain ⟨g2, z⟩ := opt_ok g1
  subst z
  refine ⟨(rfl : "str" = "str"), h.run r e1 _ fun F1 H1 fps1 v sF r1 dp => ?_⟩
  unfold joinD at g2
  split at g2
  · split at g2
    · rename_i ys hy
      split at g2
      · rename_i hz
        cases g2
        cases dp with
        | lst hq al =>
          rw [strs_dp al hy] at hq
          exact ⟨sep, _, ys, rfl, rfl, .inl (sqL_mono r1.sub hq), hz, q F1 H1 fps1 _ sF r1 (.str _)⟩
      · cases g2
    · cases g2
  · cases g2⟩
end
end Z
set_option Elab.async false
set_option linter.all false
set_option maxRecDepth 100000
set_option maxHeartbeats 1000000
namespace Z
open PySem L2
theorem FsR.mono {K : Fg} {F F' : Hp} (s : Same F F') : ∀ {ws : List (Str × V)} {fs : List (Str × D)}, FsR K F ws fs → FsR K F' ws fs
  | _, _, .nil => .nil
  | _, _, .cons h r => .cons (dp_mono s h) (r.mono s)
theorem ExOk.mono {K : Fg} {mg : Str → Option Value} {F F' : Hp} {x : Xc} {cls : Value} {dd : Option Addr} (s : Same F F') (h : ExOk K mg F x cls dd) : ExOk K mg F' x cls dd :=
  ⟨h.1, h.2.imp id fun ⟨d, ws, e, hf, r, n⟩ => ⟨d, ws, e, s _ _ hf, r.mono s, n⟩⟩
theorem FsR.get {K : Fg} {F : Hp} {f : Str} {d : D} : ∀ {ws : List (Str × V)} {fs : List (Str × D)}, FsR K F ws fs → fs.lookup f = some d → ∃ v, ws.lookup f = some v ∧ Dp K F v d
  | _, _, .nil, e => by cases e
  | _, _, .cons (f := g) h r, e => by
    rw [List.lookup_cons] at e ⊢
    split at e
    · cases e
      exact ⟨_, rfl, h⟩
    · exact r.get e
def hereM {α : Type} (i : Nat) (o : Option α) : M α := fun s => match s[i]? with
  | some (some _) => opt o s
  | _ => .no
section
variable {K : Fg} {c : Ctx} {O : List Kd} {x : Xc} {a : Addr} {cls : Value} {dd : Option Addr}
theorem here_ok {α : Type} {i : Nat} {o : Option α} {F H : Hp} {σ : St} {fps : Nat → List Addr} {ds ds' : DS} {v : α} (r : Rel K c O F H σ fps ds) (hk : O.getD i .sh = .xr a) (e : hereM i o ds = .ok v ds') : σ[i]? = some (some (.ref a)) ∧ o = some v ∧ ds' = ds := by
  unfold hereM at e
  split at e
  · rename_i d hd
    obtain ⟨e1, e2⟩ := opt_ok e
    obtain ⟨u, hu, ow⟩ := r.slots i d hd
    rw [hk] at ow
    obtain ⟨rfl, _⟩ := ow
    exact ⟨hu, e1, e2⟩
  · cases e
theorem d_isX (i : Nat) {cv : Value} {v : V} {tbl : Str → Option Bool} (hk : O.getD i .sh = .xr a) (ex : ExOk K c.mg c.F0 x cls dd) (hcv : ∀ u, RelV v u → u = cv) (ht : ∀ n b, tbl n = some b → ∃ D, c.mg n = some (.ref D) ∧ ZH.ExT K D ∧ PySem.W.kitOne K (.ref D) cv = some b) :
    DE K c O (tCB (ZH.rIsX K a cls dd) (tCons (tVar i) (tCons (tC v) tNil))) (hereM i ((tbl x.c).map .bool)) := ⟨fun {F H σ fps ds ds' d} r e Q q => by
  obtain ⟨hu, e1, rfl⟩ := here_ok r hk e
  cases z : tbl x.c with
  | none => rw [z] at e1; cases e1
  | some b =>
    rw [z] at e1
    cases e1
    obtain ⟨D, hD, T, kit⟩ := ht _ _ z
    have ex' := ex.mono r.base
    obtain ⟨h1, h2⟩ := ex'
    rw [hD] at h1
    cases h1
    refine ⟨_, hu, D, v, cv, b, rfl, T, fun d0 e0 => ?_, rfl, hcv, kit, q F H fps (.bl b) (Same.refl _) r (.bl b)⟩
    rcases h2 with ⟨_, h2⟩ | ⟨d1, ws, e2, hf, _⟩
    · rw [h2] at e0; cases e0
    · rw [e2] at e0; cases e0
      exact ⟨ws, r.sub _ _ hf⟩⟩
def spNm (K : Fg) (mg : Str → Option Value) (nmT : Str → Option Str) : ZH.SpN := fun _ cls dd H Q => ∃ (F : Hp) (x : Xc) (n : Str), Same F H ∧ ExOk K mg F x cls dd ∧ nmT x.c = some n ∧
  ∀ F' H', Same F F' → Same F' H' → (∀ b o, H b = some o → H' b = some o) → (∀ b, H' b = none → H b = none) → (∀ b o, F' b = some o → F b = some o ∨ H b = none) → Q (.str n) H'
theorem d_nm (i : Nat) {nmT : Str → Option Str} {mg : Str → Option Value} (hk : O.getD i .sh = .xr a) (hmg : c.mg = mg) (ex : ExOk K c.mg c.F0 x cls dd) : DE K c O (ZH.tCallN a cls dd (spNm K mg nmT) (tVar i)) (hereM i ((nmT x.c).map .str)) := ⟨fun {F H σ fps ds ds' d} r e Q q => by
  obtain ⟨hu, e1, rfl⟩ := here_ok r hk e
  cases z : nmT x.c with
  | none => rw [z] at e1; cases e1
  | some n =>
    rw [z] at e1
    cases e1
    refine ⟨_, hu, rfl, F, x, n, r.sub, by rw [← hmg]; exact ex.mono r.base, z, fun F' H' s1 s2 kp lv nw => q F' H' fps (.str n) s1 ?_ (.str n)⟩
    exact r.call0 (ps := []) (vs := []) (args' := []) (gps' := fun _ => []) ⟨s1, s2, fun b o e _ => kp b o e, fun b e => .inl (lv b e), fun b o e => (nw b o e).imp id .inl, fun i k e h => by simp at h, fun i q h => by simp [isPm] at h, fun _ => by simp, fun _ _ _ _ h => by simp at h⟩⟩
end
theorem fn_okNm {P : Program} {w : World} {K : Fg} {mg : Str → Option Value} {base : Heap} {xn z : Str} {st : Stmt} {f : Addr} {fd : FuncData} {N : List Str} {k : Nat} {b : Xc → MS} {O1 : Addr → List Kd} {nmT : Str → Option Str} (F : FnP K xn st f fd) (S : FnScope N [z] (defScope st)) (hN : 1 ≤ N.length)
    (h : ∀ (cdv : Value) (A : Around) (outer : List Env) (s : Shared) (H : Hp) (p : Addr × Obj) (cls : Value) (dd : Option Addr), L2H.Hot1 A p → Zc cls dd p.2 → (∃ vs, p.2.data = .fields vs) → L2H.RoomH k (A.deeper (PyProof.Rows.envOfC xn (defScope st) s.heap.objs.size f cdv)) →
      ∃ t, PSs (L2H.cxH CX0 P w K mg base N xn (defScope st) f cdv A outer s H E0 p) (defBody st) t ∧ ∀ (c : Ctx) (x : Xc), c.rk = .sh → c.mg = mg → ExOk K c.mg c.F0 x cls dd → DC K c [] (.xr p.1 :: List.replicate (N.length - 1) .sh) t (b x) (O1 p.1))
    (hv : ∀ x n, nmT x.c = some n → ∃ s', b x (entry N.length [.none]) = .rt (.str n) s') : ZH.FnN P w K mg base (k + 1) f fd z (spNm K mg nmT) := by
  refine ZH.fn_ofN F S fun cdv A outer s H p cls dd Q hot hz hf hr hsp => ?_
  obtain ⟨t, ht, hd⟩ := h cdv A outer s H p cls dd hot hz hf hr
  refine ⟨t, ht, ?_⟩
  obtain ⟨F0, x, n, sF, ex, hn, q⟩ := hsp
  obtain ⟨s', hs'⟩ := hv x n hn
  let c : Ctx := { F0 := F0, H0 := H, ow := fun _ _ => False, ps := ([], []), pk := fun _ => none, rk := .sh, arg := fun _ => .non, mg := mg, W := fun _ _ _ _ => False, Ox := none, hx := false }
  refine (hd c x rfl rfl ex).run (F := F0) (H := H) (σ := L2.start N [.ref p.1]) (fps := fun _ => []) (ds := entry N.length [.none]) ?_ _ ?_
  · refine ⟨sF, Same.refl _, fun b o e _ => e, fun b e => e, fun b o e => .inl e, fun i d hd => ?_, fun i q hq => absurd hq (by simp), fun _ => by simp, fun _ _ _ _ hq => absurd hq (by simp), fun i k hk => by simp [c] at hk, ?_⟩
    · cases i with
      | zero => exact ⟨.ref p.1, rfl, rfl, rfl⟩
      | succ i =>
        unfold entry at hd
        rw [List.map_cons, List.map_nil, List.cons_append, List.nil_append, List.getElem?_cons_succ, List.getElem?_replicate] at hd
        split at hd <;> cases hd
    · unfold L2.start entry
      simp
  · rw [hs']
    refine fun F' H' σ' fps' O'' v fpv s1 r' ow _ _ => ?_
    obtain ⟨_, dp⟩ := ow
    cases dp
    exact q F' H' s1 r'.sub (fun b o e => r'.keep b o e fun ⟨_, z⟩ => z) (fun b e => r'.live b e) fun b o e => r'.new b o e
section
variable {s : DS} {Nx Bk Ct : DS → Prop} {Ex : Xc → DS → Prop} {Rt : D → DS → Prop}
def EvX0 (m : MX) (s : DS) (Q : D → DS → Prop) (E : Xc → DS → Prop) (_ : W5 m Q E () () := Unit.unit) : Prop := match m s with
  | .ok d s' => Q d s'
  | .ex x s' => E x s'
  | .no => False
def ClX0 (f : FD) (xs : List D) (Q : D → List D → Prop) (E : Xc → List D → Prop) (_ : W5 f Q E () () := Unit.unit) : Prop := match f xs with
  | .ok d as => Q d as
  | .ex x as => E x as
  | .no => False
@[irreducible] def EvX (m : MX) (s : DS) (Q : D → DS → Prop) (E : Xc → DS → Prop) (_ : W5 m Q E () () := Unit.unit) : Prop := EvX0 m s Q E
@[irreducible] def ClX (f : FD) (xs : List D) (Q : D → List D → Prop) (E : Xc → List D → Prop) (_ : W5 f Q E () () := Unit.unit) : Prop := ClX0 f xs Q E
theorem fn_clX_0 {N n : Nat} {rk : Kd} {b : MS} {args : List D} {Q : D → List D → Prop} {E : Xc → List D → Prop} (hl : args.length = n) (h : Run0 b (entry N args) (fun s => rk = .sh ∧ So0 ((List.range n).mapM (look s)) fun as => Q .none as) (fun d s => So0 ((List.range n).mapM (look s)) fun as => Q d as) (fun _ => False) (fun _ => False) (fun x s => So0 ((List.range n).mapM (look s)) fun as => E x as)) :
    ClX0 (fnD N n rk b) args Q E := by
  unfold Run0 at h
  unfold ClX0 fnD
  rw [if_pos hl]
  cases e : b (entry N args) with
  | rt d s =>
    rw [e] at h
    dsimp only [leave, So0] at h ⊢
    cases z : (List.range n).mapM (look s) with
    | none => rw [z] at h; exact h
    | some as => rw [z] at h; exact h
  | nx s =>
    rw [e] at h
    obtain ⟨h1, h2⟩ := h
    dsimp only [So0] at h2 ⊢
    rw [if_pos h1]
    unfold leave
    cases z : (List.range n).mapM (look s) with
    | none => rw [z] at h2; exact h2
    | some as => rw [z] at h2; exact h2
  | ex x s =>
    rw [e] at h
    dsimp only [leaveX, So0] at h ⊢
    cases z : (List.range n).mapM (look s) with
    | none => rw [z] at h; exact h
    | some as => rw [z] at h; exact h
  | bk s => rw [e] at h; exact h
  | ct s => rw [e] at h; exact h
  | no => rw [e] at h; exact h
theorem fn_clX {N n : Nat} {rk : Kd} {b : MS} {args : List D} {Q : D → List D → Prop} {E : Xc → List D → Prop} (hl : args.length = n) (h : Run b (entry N args) (fun s => rk = .sh ∧ So ((List.range n).mapM (look s)) fun as => Q .none as) (fun d s => So ((List.range n).mapM (look s)) fun as => Q d as) (fun _ => False) (fun _ => False) (fun x s => So ((List.range n).mapM (look s)) fun as => E x as)) :
    ClX (fnD N n rk b) args Q E := by with_unfolding_all exact fn_clX_0 hl h
theorem evX_of_0 {m : M D} {Q : D → DS → Prop} {E : Xc → DS → Prop} : EvX0 (xOf m) s Q E = Ev0 m s Q := by
  unfold EvX0 xOf Ev0
  cases m s <;> rfl
theorem evX_of {m : M D} {Q : D → DS → Prop} {E : Xc → DS → Prop} : EvX (xOf m) s Q E = Ev m s Q := by with_unfolding_all exact evX_of_0
theorem xv_xcall_0 {f : FD} {n : Nat} {a : M (List D)} {Q : D → DS → Prop} {E : Xc → DS → Prop} : EvX0 (xCall f n a) s Q E = Ev0 a s fun xs s' => xs.length = n ∧ ClX0 f xs (fun d _ => Q d s') fun x _ => E x s' := by
  unfold EvX0 xCall Ev0
  cases a s with
  | no => rfl
  | ok xs s' =>
    dsimp only
    by_cases h : xs.length = n
    · rw [if_pos h]
      dsimp only [ClX0]
      cases f xs <;> simp [h]
    · rw [if_neg h]; simp [h]
theorem xv_xcall {f : FD} {n : Nat} {a : M (List D)} {Q : D → DS → Prop} {E : Xc → DS → Prop} : EvX (xCall f n a) s Q E = Ev a s fun xs s' => xs.length = n ∧ ClX f xs (fun d _ => Q d s') fun x _ => E x s' := by with_unfolding_all exact xv_xcall_0
theorem xv_xcall1_0 {f : FD} {n j : Nat} {a : M (List D)} {Q : D → DS → Prop} {E : Xc → DS → Prop} : EvX0 (xCall1 f n j a) s Q E = So0 (look s j) fun _ => Ev0 a s fun xs s' => So0 (look s' j) fun e => xs.length = n ∧ ClX0 f (e :: xs) (fun d as => So0 (hdO as) fun e' => Q d (s'.set j (some e'))) fun x as => So0 (hdO as) fun e' => E x (s'.set j (some e')) := by
  unfold look
  dsimp only [EvX0, xCall1, Ev0]
  cases s[j]? with
  | none => rfl
  | some o =>
    cases o with
    | none => rfl
    | some d0 =>
      dsimp only [So0]
      cases a s with
      | no => rfl
      | ok xs s' =>
        dsimp only
        cases s'[j]? with
        | none => rfl
        | some o =>
          cases o with
          | none => rfl
          | some e =>
            dsimp only
            by_cases h : xs.length = n
            · rw [if_pos h]
              dsimp only [ClX0]
              cases f (e :: xs) with
              | ok d as => cases as <;> simp [h, hdO]
              | ex x as => cases as <;> simp [h, hdO]
              | no => simp [h]
            · rw [if_neg h]; simp [h]
theorem xv_xcall1 {f : FD} {n j : Nat} {a : M (List D)} {Q : D → DS → Prop} {E : Xc → DS → Prop} : EvX (xCall1 f n j a) s Q E = So (look s j) fun _ => Ev a s fun xs s' => So (look s' j) fun e => xs.length = n ∧ ClX f (e :: xs) (fun d as => So (hdO as) fun e' => Q d (s'.set j (some e'))) fun x as => So (hdO as) fun e' => E x (s'.set j (some e')) := by with_unfolding_all exact xv_xcall1_0
theorem xv_xcallG_0 {f : FD} {js : JS} {a : M (List D)} {Q : D → DS → Prop} {E : Xc → DS → Prop} : EvX0 (xCallG f js a) s Q E = Ev0 a s fun xs s' => So0 (fillG s' js xs) fun args => ClX0 f args (fun d as => as.length = js.length ∧ Q d (backG js as s')) fun x as => as.length = js.length ∧ E x (backG js as s') := by
  unfold EvX0 xCallG Ev0
  cases a s with
  | no => rfl
  | ok xs s' =>
    dsimp only
    cases fillG s' js xs with
    | none => rfl
    | some args =>
      dsimp only [So0, ClX0]
      cases f args with
      | no => rfl
      | ok d as => by_cases h : as.length = js.length <;> simp [h]
      | ex x as => by_cases h : as.length = js.length <;> simp [h]
theorem xv_xcallG {f : FD} {js : JS} {a : M (List D)} {Q : D → DS → Prop} {E : Xc → DS → Prop} : EvX (xCallG f js a) s Q E = Ev a s fun xs s' => So (fillG s' js xs) fun args => ClX f args (fun d as => as.length = js.length ∧ Q d (backG js as s')) fun x as => as.length = js.length ∧ E x (backG js as s') := by with_unfolding_all exact xv_xcallG_0
theorem xv_xmeth_0 {f : FD} {m : Str} {n j : Nat} {a : M (List D)} {Q : D → DS → Prop} {E : Xc → DS → Prop} : EvX0 (xMeth f m n j a) s Q E = So0 (look s j) fun e => So0 (noFd m e) fun _ => EvX0 (xCall1 f n j a) s Q E := by
  unfold EvX0 xMeth
  cases look s j with
  | none => rfl
  | some e =>
    dsimp only [So0]
    cases noFd m e <;> rfl
theorem xv_xmeth {f : FD} {m : Str} {n j : Nat} {a : M (List D)} {Q : D → DS → Prop} {E : Xc → DS → Prop} : EvX (xMeth f m n j a) s Q E = So (look s j) fun e => So (noFd m e) fun _ => EvX (xCall1 f n j a) s Q E := by with_unfolding_all exact xv_xmeth_0
theorem xv_xop_0 {g : D → D → Option D} {a : MX} {b : M D} {Q : D → DS → Prop} {E : Xc → DS → Prop} : EvX0 (xOp g a b) s Q E = EvX0 a s (fun x s1 => Ev0 b s1 fun y s2 => So0 (g x y) fun z => Q z s2) E := by
  unfold EvX0 xOp Ev0
  cases a s with
  | no => rfl
  | ex x s1 => rfl
  | ok x s1 =>
    dsimp only
    cases b s1 with
    | no => rfl
    | ok y s2 =>
      dsimp only [So0]
      cases g x y <;> rfl
theorem xv_xop {g : D → D → Option D} {a : MX} {b : M D} {Q : D → DS → Prop} {E : Xc → DS → Prop} : EvX (xOp g a b) s Q E = EvX a s (fun x s1 => Ev b s1 fun y s2 => So (g x y) fun z => Q z s2) E := by with_unfolding_all exact xv_xop_0
theorem xv_xtup_0 {a : MX} {Q : D → DS → Prop} {E : Xc → DS → Prop} : EvX0 (xTup1 a) s Q E = EvX0 a s (fun x s1 => Q (.tuple [x]) s1) E := by
  unfold EvX0 xTup1
  cases a s <;> rfl
theorem xv_xtup {a : MX} {Q : D → DS → Prop} {E : Xc → DS → Prop} : EvX (xTup1 a) s Q E = EvX a s (fun x s1 => Q (.tuple [x]) s1) E := by with_unfolding_all exact xv_xtup_0
theorem xv_xif_0 {t : M Bool} {a b : MX} {Q : D → DS → Prop} {E : Xc → DS → Prop} : EvX0 (xIf t a b) s Q E = Ev0 t s fun v s1 => Br0 v (EvX0 a s1 Q E) (EvX0 b s1 Q E) := by
  unfold EvX0 xIf Ev0
  cases t s with
  | no => rfl
  | ok v s1 => cases v <;> rfl
theorem xv_xif {t : M Bool} {a b : MX} {Q : D → DS → Prop} {E : Xc → DS → Prop} : EvX (xIf t a b) s Q E = Ev t s fun v s1 => Br v (EvX a s1 Q E) (EvX b s1 Q E) := by with_unfolding_all exact xv_xif_0
theorem run_setX_0 {i : Nat} {m : MX} : Run0 (sSetX i m) s Nx Rt Bk Ct Ex = EvX0 m s (fun d s' => Nx (s'.set i (some d))) Ex := by
  unfold Run0 sSetX EvX0
  cases m s <;> rfl
theorem run_setX {i : Nat} {m : MX} : Run (sSetX i m) s Nx Rt Bk Ct Ex = EvX m s (fun d s' => Nx (s'.set i (some d))) Ex := by with_unfolding_all exact run_setX_0
theorem run_dropX_0 {m : MX} : Run0 (sDropX m) s Nx Rt Bk Ct Ex = EvX0 m s (fun _ s' => Nx s') Ex := by
  unfold Run0 sDropX EvX0
  cases m s <;> rfl
theorem run_dropX {m : MX} : Run (sDropX m) s Nx Rt Bk Ct Ex = EvX m s (fun _ s' => Nx s') Ex := by with_unfolding_all exact run_dropX_0
theorem run_retX_0 {m : MX} : Run0 (sRetX m) s Nx Rt Bk Ct Ex = EvX0 m s (fun d s' => Rt d s') Ex := by
  unfold Run0 sRetX EvX0
  cases m s <;> rfl
theorem run_retX {m : MX} : Run (sRetX m) s Nx Rt Bk Ct Ex = EvX m s (fun d s' => Rt d s') Ex := by with_unfolding_all exact run_retX_0
theorem run_asgX_0 {m : MX} {g : MG} : Run0 (sAsgX m g) s Nx Rt Bk Ct Ex = EvX0 m s (fun d s' => So0 (g d s') fun s2 => Nx s2) Ex := by
  unfold Run0 sAsgX EvX0
  cases m s with
  | no => rfl
  | ex x s' => rfl
  | ok d s' =>
    dsimp only [So0]
    cases g d s' <;> rfl
theorem run_asgX {m : MX} {g : MG} : Run (sAsgX m g) s Nx Rt Bk Ct Ex = EvX m s (fun d s' => So (g d s') fun s2 => Nx s2) Ex := by with_unfolding_all exact run_asgX_0
theorem run_raise_0 {x : Str} : Run0 (sRaise x) s Nx Rt Bk Ct Ex = Ex ⟨x, []⟩ s := nr rfl
theorem run_raise {x : Str} : Run (sRaise x) s Nx Rt Bk Ct Ex = Ex ⟨x, []⟩ s := by with_unfolding_all exact run_raise_0
theorem run_raiseF_0 {x : Str} {fs : List Str} {a : M (List D)} : Run0 (sRaiseF x fs a) s Nx Rt Bk Ct Ex = Ev0 a s fun vs s' => vs.length = fs.length ∧ Ex ⟨x, (fs.zip vs).reverse⟩ s' := by
  unfold Run0 sRaiseF Ev0
  cases a s with
  | no => rfl
  | ok vs s' =>
    dsimp only
    by_cases h : vs.length = fs.length
    · rw [if_pos h]; simp [h]
    · rw [if_neg h]; simp [h]
theorem run_raiseF {x : Str} {fs : List Str} {a : M (List D)} : Run (sRaiseF x fs a) s Nx Rt Bk Ct Ex = Ev a s fun vs s' => vs.length = fs.length ∧ Ex ⟨x, (fs.zip vs).reverse⟩ s' := by with_unfolding_all exact run_raiseF_0
theorem run_tryAs_0 {i : Nat} {sub : Str → Option Bool} {b : MS} {su : Xc → MS} : Run0 (sTryAs i sub b su) s Nx Rt Bk Ct Ex = Run0 b s Nx Rt Bk Ct fun x s' => So0 (sub x.c) fun v => Br0 v (Run0 (su x) (s'.set i (some .none)) (fun s2 => Nx (s2.set i none)) Rt (fun s2 => Bk (s2.set i none)) (fun s2 => Ct (s2.set i none)) fun _ _ => False) (Ex x s') := by
  unfold Run0 sTryAs
  cases b s with
  | ex x s' =>
    dsimp only [So0]
    cases sub x.c with
    | none => rfl
    | some v =>
      cases v with
      | false => rfl
      | true =>
        dsimp only [Br0]
        cases su x (s'.set i (some .none)) <;> rfl
  | _ => rfl
theorem run_tryAs {i : Nat} {sub : Str → Option Bool} {b : MS} {su : Xc → MS} : Run (sTryAs i sub b su) s Nx Rt Bk Ct Ex = Run b s Nx Rt Bk Ct fun x s' => So (sub x.c) fun v => Br v (Run (su x) (s'.set i (some .none)) (fun s2 => Nx (s2.set i none)) Rt (fun s2 => Bk (s2.set i none)) (fun s2 => Ct (s2.set i none)) fun _ _ => False) (Ex x s') := by with_unfolding_all exact run_tryAs_0
theorem run_tryOnly_0 {sub : Str → Option Bool} {b sm : MS} : Run0 (sTryOnly sub b sm) s Nx Rt Bk Ct Ex = Run0 b s Nx Rt Bk Ct fun x s' => So0 (sub x.c) fun v => Br0 v (Run0 sm s' Nx Rt Bk Ct fun _ _ => False) (Ex x s') := by
  unfold Run0 sTryOnly
  cases b s with
  | ex x s' =>
    dsimp only [So0]
    cases sub x.c with
    | none => rfl
    | some v =>
      cases v with
      | false => rfl
      | true =>
        dsimp only [Br0]
        cases sm s' <;> rfl
  | _ => rfl
theorem run_tryOnly {sub : Str → Option Bool} {b sm : MS} : Run (sTryOnly sub b sm) s Nx Rt Bk Ct Ex = Run b s Nx Rt Bk Ct fun x s' => So (sub x.c) fun v => Br v (Run sm s' Nx Rt Bk Ct fun _ _ => False) (Ex x s') := by with_unfolding_all exact run_tryOnly_0
theorem ev_here_0 {α : Type} {i : Nat} {o : Option α} {Q : α → DS → Prop} : Ev0 (hereM i o) s Q = So0 (look s i) fun _ => So0 o fun v => Q v s := by
  unfold Ev0 hereM look
  cases s[i]? with
  | none => rfl
  | some u =>
    cases u with
    | none => rfl
    | some d => dsimp only [So0, opt]; cases o <;> rfl
theorem ev_here {α : Type} {i : Nat} {o : Option α} {Q : α → DS → Prop} : Ev (hereM i o) s Q = So (look s i) fun _ => So o fun v => Q v s := by with_unfolding_all exact ev_here_0
theorem ev_zip_0 {ml : M (List D)} {Q : List D → DS → Prop} : Ev0 (mZip ml) s Q = Ev0 ml s fun es s' => So0 ((twoL es).map fun p => zipD p.1 p.2) fun zs => Q zs s' := by
  unfold mZip; rw [ev_bnd_0]; exact ev_ext_0 fun es s' => ev_opt_0
theorem ev_zip {ml : M (List D)} {Q : List D → DS → Prop} : Ev (mZip ml) s Q = Ev ml s fun es s' => So ((twoL es).map fun p => zipD p.1 p.2) fun zs => Q zs s' := by with_unfolding_all exact ev_zip_0
theorem so_two {xs ys : List D} {Q : List D → Prop} : So ((twoL [.list xs, .list ys]).map fun p => zipD p.1 p.2) Q = Q (zipD xs ys) := by with_unfolding_all rfl
theorem ev_zip1_0 {ml : M (List D)} {Q : List D → DS → Prop} : Ev0 (mZip1 ml) s Q = Ev0 ml s fun es s' => So0 ((twoLe es).map fun p => zipD p.1 p.2) fun zs => Q zs s' := by
  unfold mZip1; rw [ev_bnd_0]; exact ev_ext_0 fun es s' => ev_opt_0
theorem ev_zip1 {ml : M (List D)} {Q : List D → DS → Prop} : Ev (mZip1 ml) s Q = Ev ml s fun es s' => So ((twoLe es).map fun p => zipD p.1 p.2) fun zs => Q zs s' := by with_unfolding_all exact ev_zip1_0
theorem ev_join_0 {sep : Str} {m : M D} {Q : D → DS → Prop} : Ev0 (mJoin sep m) s Q = Ev0 m s fun d s' => So0 (joinD sep d) fun r => Q r s' := by
  unfold mJoin; rw [ev_bnd_0]; exact ev_ext_0 fun es s' => ev_opt_0
theorem ev_join {sep : Str} {m : M D} {Q : D → DS → Prop} : Ev (mJoin sep m) s Q = Ev m s fun d s' => So (joinD sep d) fun r => Q r s' := by with_unfolding_all exact ev_join_0
end
end Z
set_option Elab.async false
set_option linter.all false
set_option maxRecDepth 100000
set_option maxHeartbeats 1000000
namespace Z
open PySem L2 PyProof.Rows
theorem ox_none {c : Ctx} {O : List Kd} (h : c.Ox = none) : ∀ o, c.Ox = some o → O = o := fun o e => by rw [h] at e; cases e
theorem ox_some {c : Ctx} {O : List Kd} (h : c.Ox = some O) : ∀ o, c.Ox = some o → O = o := fun o e => by rw [h] at e; cases e; rfl
def FkE (P : Program) (w : World) (K : Fg) (mg : Str → Option Value) (base : Heap) (x : Str) (k : Nat) (ps : List Str) (sp : Sp) : Prop :=
  ∃ (f : Addr) (fd : FuncData), FnOk P w K mg base (L2N.CX P w) k f fd ps sp ∧ mg x = some (.ref f) ∧ PySem.W.keepIn K (.ref f) = true ∧ Binds K fd ps []
def FkN (P : Program) (w : World) (K : Fg) (mg : Str → Option Value) (base : Heap) (x z : Str) (k : Nat) (sp : ZH.SpN) : Prop :=
  ∃ (f : Addr) (fd : FuncData), ZH.FnN P w K mg base k f fd z sp ∧ mg x = some (.ref f) ∧ PySem.W.keepIn K (.ref f) = true ∧ Binds K fd [z] []
structure ExC (K : Fg) (mg : Str → Option Value) (x : Str) (C : Addr) : Prop where
  g : mg x = some (.ref C)
  q : PySem.W.excIn K C He.veBase "ValueError.__new__" = true
  k : PySem.W.keepIn K (.ref C) = true
  b : PySem.W.subIn K (.ref C) (.type "BaseException") = some true
  t : PySem.W.typeIn K (.ref C) = some (.type "type")
structure ExI (P : Program) (w : World) (K : Fg) (mg : Str → Option Value) (base : Heap) (x : Str) (C fI : Addr) (fd : FuncData) (ps : List Str) (sp : Sp) : Prop where
  g : mg x = some (.ref C)
  T : OexC K C
  i : PySem.W.findIn K (.ref C) "__init__" = some (some (.ref fI))
  ty : PySem.W.typeIn K (.ref fI) = some (.type "function")
  F : FnOk P w K mg base CX0 1 fI fd ps sp
  b : Binds K fd ps []
theorem fn_okE {P : Program} {w : World} {K : Fg} {mg : Str → Option Value} {base : Heap} {x y : Str} {st : Stmt} {f : Addr} {fd : FuncData} {N xs : List Str} {ps : List Kd} {rk : Kd} {k : Nat} {b : MS} {O1 : List Kd} (F : FnQ K x y st f fd) (S : FnScope N xs (defScope st)) (hx : xs.length = ps.length) (hN : ps.length ≤ N.length)
    (h : ∀ (cdv : Value) (A : Around) (outer : List Env) (s : Shared) (H : Hp) (E : XK), Room k (A.deeper (PyProof.Rows.envOfC y (defScope st) s.heap.objs.size f cdv)) →
      L2N.Takes (cxOf (L2N.CX P w) P w K mg base N y (defScope st) f cdv A outer s H E) (fun cls d _ H => E cls d H) → PassesOwn (model P w) (cxOf (L2N.CX P w) P w K mg base N y (defScope st) f cdv A outer s H E).A (cxOf (L2N.CX P w) P w K mg base N y (defScope st) f cdv A outer s H E).env (cxOf (L2N.CX P w) P w K mg base N y (defScope st) f cdv A outer s H E).xe →
      ∃ t, PSs (cxOf (L2N.CX P w) P w K mg base N y (defScope st) f cdv A outer s H E) (defBody st) t ∧ ∀ c : Ctx, c.ps = (ps, []) → c.rk = rk → c.mg = mg → c.Ox = none → (c.W = fun cls d _ H => E cls d H) → DC K c [] (ps ++ List.replicate (N.length - ps.length) .sh) t b O1) :
    FnOk P w K mg base (L2N.CX P w) (k + 1) f fd xs (spD K mg (fnD N.length ps.length rk b) ps rk) := by
  refine F.ok S (fun vs H Q E q => (spD_len q).trans hx.symm) (fun cdv A outer s H vs Q E hr q => ?_)
  obtain ⟨t, p, d⟩ := h cdv A outer s H E hr (L2N.takes_of rfl rfl rfl rfl) (passes_of rfl)
  exact ⟨t, p, body_ok rfl E d q hN⟩
theorem pe_lczD {K : Fg} {O : List Kd} {k : Kd} {mt : M Bool} {me : M D} {X : Cx} {p : Addr × Obj} {elt t1 t2 e1 e2 : Expr} {ifs : List Expr} {scope : Scope} {own : List (Str × Nat)} {pos tpos zp cpos : Pos} {kk : Nat} {ta : TA} {gs : TGs} {tt : TT} {te : TE} (_ : ∀ c : Ctx, DT K c O tt mt) (_ : ∀ c : Ctx, DO K c O k te me) (hot : L2H.Hot1 X.A p) (hpn : p ∈ X.pn) (hN : X.N.Nodup) (hgz : Gl X "zip") (hmz : X.mg "zip" = none) (ha : PA X [e1, e2] ta) (ok : BlkOk X.N X.env.scope scope own)
    (hg : ∀ (s : Shared) (H : Hp) (C : Addr) (cl : List (Str × Addr)) (fp : List Addr), PGs (X.blk s H scope (compEnvC scope cl C X.env) fp) [t1, t2] gs) (hst : ∀ env : Env, (assignEach [t1, t2] env).findIdx? (·.1) = none) (hln : ∀ env : Env, (assignEach [t1, t2] env).length = 2)
    (ht : ∀ (s : Shared) (H : Hp) (C : Addr) (cl : List (Str × Addr)) (fp : List Addr), PTs (X.blk s H scope (compEnvC scope cl C X.env) fp) ifs tt) (he : ∀ (s : Shared) (H : Hp) (C : Addr) (cl : List (Str × Addr)) (fp : List Addr), PE (X.blk s H scope (compEnvC scope cl C X.env) fp) elt te)
    (hs : ∀ x, foldedSetIterable (.Call (.Name "zip" zp) [e1, e2] [] cpos) X.env x = pure x := by intro _; rfl)
    (hs1 : starEach [e1, e2] X.env = (false, eval e1 X.env) :: starEach [e2] X.env := by rfl) (hs2 : (backTo cpos (starEach [e2] X.env)).any (·.1) = false := by rfl) :
    PE X (.ListComp elt [⟨.Tuple [t1, t2] kk tpos, .Call (.Name "zip" zp) [e1, e2] [] cpos, ifs, 0⟩] scope pos) (tLc (ZH.iZip1 X.K ta) (gTup X.K 2 gs) tt te (own.map (·.2))) := ZH.pe_lcz hot hpn hN hgz hmz ha ok hg hst hln ht he hs hs1 hs2
theorem call_isK {K : Fg} {X : Cx} {a : Addr} {oe : Obj} {cls : Value} {dd : Option Addr} (hp : (a, oe) ∈ X.pn) (hz : Zc cls dd oe) (hf : ∃ vs, oe.data = .fields vs) (hK : X.K = K := by rfl) : CallR X (.builtin "isinstance") (ZH.rIsX K a cls dd) := by
  subst hK; exact ZH.call_isX hp hz hf
def tTryAs (K : Fg) (cv : Value) (i : Nat) (tb : WX → TS) (ts : Addr → Value → Option Addr → TS) (Wout : WX) : TS := fun D σ H => tb (wAs K cv i ts Wout D) D σ H
section
variable {X : Cx} {x n : Str} {cv : Value} {i : Nat} {body suite : List Stmt} {b₀ : Stmt} {np pos pos' : Pos} {tb : WX → TS} {ts : Addr → Value → Option Addr → TS} {Wout : WX}
theorem ps_tryAsD (hs : X.stack = X.env :: X.outer) (hf : X.env.frame = some X.env.locals) (hN : X.N.Nodup) (hi : X.N[i]? = some n) (hln : X.env.kindOf n = some .local) (hc : Names X x cv) (tk : L2N.Takes X Wout)
    (hb : ∀ (W : WX) (pn : List (Addr × Obj)) (xe : Value → Shared → Prop), L2N.Takes (X.tr pn xe) W → PassesOwn (model X.prog X.w) X.A X.env xe → PSs (X.tr pn xe) body (tb W))
    (hsu : ∀ (a : Addr) (oe : Obj) (cls : Value) (d : Option Addr) (pn : List (Addr × Obj)), L2N.Zn cls d oe → (∃ vs, oe.data = .fields vs) → PSs (X.suite a ((a, oe) :: pn)) (b₀ :: suite) (ts a cls d)) :
    PS X (.Try body [.ExceptHandler (some (.Name x np)) (some n) (b₀ :: suite) pos'] [] [] pos) (tTryAs X.K cv i tb ts Wout) := L2N.ps_try_as hs hf hN hi hln hc tk hb hsu
end
section
variable {K : Fg} {c : Ctx} {Ob O O1 : List Kd} {cv : Value} {sub : Str → Option Bool} {tb : WX → TS} {ts : Addr → Value → Option Addr → TS} {Wout : WX} {b : MS} {su : Xc → MS} {sm : MS}
theorem c_tryAsD (i : Nat) (hi : i < O.length) (hp : O[i]? = some .sh) (hp1 : O1[i]? = some .sh) (hpb : Ob = [] ∨ Ob[i]? = some .sh) (hsub : ∀ n v, sub n = some v → ∀ cls, c.mg n = some cls → PySem.W.exmOne K cls cv = some v) (hWo : (∀ n, sub n ≠ some false) ∨ (c.W = Wout ∧ ∀ o, c.Ox = some o → O = o))
    (hb : ∀ c' : Ctx, c'.ps = c.ps → c'.rk = c.rk → c'.mg = c.mg → c'.Ox = some O → DC K c' Ob O (tb c'.W) b O1)
    (hs : ∀ (c' : Ctx) (a : Addr) (cls : Value) (d : Option Addr) (x : Xc), c'.ps = c.ps → c'.rk = c.rk → c'.mg = c.mg → sub x.c = some true → ExOk K c'.mg c'.F0 x cls d → DC K c' (Ob.set i (.xr a)) (O.set i (.xr a)) (ts a cls d) (su x) (O1.set i (.xr a))) :
    DC K c Ob O (tTryAs K cv i tb ts Wout) (sTryAs i sub b su) O1 := c_tryAs i hi hp hp1 hpb hsub hWo hb hs
end
theorem tbl_row {α : Type} {P : Str → α → Prop} {n0 : Str} {b0 : α} {l : List (Str × α)} (h0 : P n0 b0) (hr : ∀ n b, l.lookup n = some b → P n b) : ∀ n b, List.lookup n ((n0, b0) :: l) = some b → P n b := fun n b e => by
  rw [List.lookup_cons] at e
  split at e
  · rename_i z
    cases e
    rw [eq_of_beq z]
    exact h0
  · exact hr n b e
theorem tbl_nil {α : Type} {P : Str → α → Prop} : ∀ n b, List.lookup n ([] : List (Str × α)) = some b → P n b := fun n b e => by cases e
theorem tbl_yes {l : List (Str × Bool)} (h : l.all (·.2) = true) : ∀ n, List.lookup n l ≠ some false := fun n e => by
  induction l with
  | nil => cases e
  | cons p l ih =>
    obtain ⟨m, b⟩ := p
    simp only [List.all_cons, Bool.and_eq_true] at h
    rw [List.lookup_cons] at e
    split at e
    · cases e; exact absurd h.1 (by decide)
    · exact ih h.2 e
section
variable {c : Ctx} {K : Fg} {mg : Str → Option Value}
theorem gx_c {x : Str} {C : Addr} (h : c.mg = mg) (g : mg x = some (.ref C)) : c.mg x = some (.ref C) := by rw [h]; exact g
theorem tb_c {tbl : Str → Option Bool} {cv : Value} (h : c.mg = mg) (g : ∀ n b, tbl n = some b → ∃ D, mg n = some (.ref D) ∧ ZH.ExT K D ∧ PySem.W.kitOne K (.ref D) cv = some b) : ∀ n b, tbl n = some b → ∃ D, c.mg n = some (.ref D) ∧ ZH.ExT K D ∧ PySem.W.kitOne K (.ref D) cv = some b := by rw [h]; exact g
theorem sb_c {tbl : Str → Option Bool} {cv : Value} (h : c.mg = mg) (g : ∀ n v, tbl n = some v → ∀ cls, mg n = some cls → PySem.W.exmOne K cls cv = some v) : ∀ n v, tbl n = some v → ∀ cls, c.mg n = some cls → PySem.W.exmOne K cls cv = some v := by rw [h]; exact g
end
theorem sub_row {K : Fg} {mg : Str → Option Value} {n0 : Str} {D : Addr} {cv : Value} {b : Bool} (g : mg n0 = some (.ref D)) (e : PySem.W.exmOne K (.ref D) cv = some b) : ∀ cls, mg n0 = some cls → PySem.W.exmOne K cls cv = some b := fun cls z => by
  rw [g] at z; cases z; exact e
theorem bt_ve : bootBuiltins "ValueError" = some (.type "ValueError") := PyProof.Rows.Boot.«ValueError»
end Z
set_option Elab.async false
set_option linter.all false
set_option maxRecDepth 100000
set_option maxHeartbeats 1000000
namespace Z
open PySem L2
section
variable {K : Fg} {c : Ctx} {O : List Kd}
end
section
variable {K : Fg} {c : Ctx} {O : List Kd} {vs : List Nat}
def xLc (mx : MX) (g : MG) (t : M Bool) (e : M D) (vs : List Nat) : MX := fun s => match mx s with
  | .no => .no
  | .ex x s1 => .ex x s1
  | .ok (.list xs) s1 => match lcl g t e vs xs (wipeD s1 vs) with
    | .no => .no
    | .ok ys s2 => if fits ys.length then .ok (.list ys) (back s1 s2 vs) else .no
  | .ok _ _ => .no
theorem xv_xlc_0 {s : DS} {mx : MX} {g : MG} {t : M Bool} {e : M D} {Q : D → DS → Prop} {E : Xc → DS → Prop} : EvX0 (xLc mx g t e vs) s Q E = EvX0 mx s (fun d s1 => So0 (lof d) fun xs => Lc0 g t e vs xs (wipeD s1 vs) fun ys s2 => fits ys.length = true ∧ Q (.list ys) (back s1 s2 vs)) E := by
  unfold EvX0 xLc Lc0
  cases mx s with
  | no => rfl
  | ex x s1 => rfl
  | ok d s1 =>
    cases d <;> try rfl
    rename_i xs
    show (match (match lcl g t e vs xs (wipeD s1 vs) with | .no => RX.no | .ok ys s2 => if fits ys.length then .ok (.list ys) (back s1 s2 vs) else .no) with | .ok d s => Q d s | .ex x s => E x s | .no => False) = (match lcl g t e vs xs (wipeD s1 vs) with | .ok ys s2 => fits ys.length = true ∧ Q (.list ys) (back s1 s2 vs) | .no => False)
    cases lcl g t e vs xs (wipeD s1 vs) with
    | no => rfl
    | ok ys s2 =>
      dsimp only
      by_cases h : fits ys.length = true
      · rw [if_pos h]; simp [h]
      · rw [if_neg h]; simp [h]
theorem xv_xlc {s : DS} {mx : MX} {g : MG} {t : M Bool} {e : M D} {Q : D → DS → Prop} {E : Xc → DS → Prop} : EvX (xLc mx g t e vs) s Q E = EvX mx s (fun d s1 => So (lof d) fun xs => Lc xs (wipeD s1 vs) g t e vs fun ys s2 => fits ys.length = true ∧ Q (.list ys) (back s1 s2 vs)) E := by with_unfolding_all exact xv_xlc_0
end
end Z
set_option Elab.async false
set_option linter.all false
set_option maxRecDepth 100000
set_option maxHeartbeats 1000000
namespace Z
open PySem L2
def sWhen (i : Nat) (P : D → Bool) (b : MS) : MS := fun s => match s[i]? with
  | some (some d) => if P d then b s else .no
  | _ => .no
def yesD : D → Bool := fun _ => true
def notNon (d : D) : Bool := !nonB d
section
variable {K : Fg} {c : Ctx} {O : List Kd}
theorem c_when {Ob O' : List Kd} {t : TS} {b : MS} {P : D → Bool} {k' : Kd} (i : Nat) (hp : isPm O[i]? = false) (hi : i < O.length)
    (hw : ∀ (F H : Hp) (v : V) (d : D) (fp : List Addr), P d = true → Ow K F H (O.getD i .sh) v d fp → Ow K F H k' v d fp) (h : DC K c Ob (O.set i k') t b O') : DC K c Ob O t (sWhen i P b) O' := ⟨fun {F H σ fps ds} r E p => by
  unfold sWhen at p
  cases hd : ds[i]? with
  | none => rw [hd] at p; exact p.elim
  | some o =>
    cases o with
    | none => rw [hd] at p; exact p.elim
    | some d =>
      rw [hd] at p
      dsimp only at p
      by_cases hP : P d = true
      · rw [if_pos hP] at p
        refine h.run (F := F) (H := H) (σ := σ) (fps := fps) ?_ E p
        have hne : ∀ j k', c.pk j = some k' → j ≠ i := fun j k' hjk z => by
          subst z
          obtain ⟨k2, hk2, _⟩ := (r.par j k' hjk).1
          rw [hk2] at hp
          exact absurd hp (by simp [isPm])
        refine ⟨r.sub, r.base, r.keep, r.live, r.new, fun j e hj => ?_, fun j q hq => ?_, r.nd, r.dj, fun j k' h => ?_, r.len⟩
        · obtain ⟨u, hu, w⟩ := r.slots j e hj
          refine ⟨u, hu, ?_⟩
          by_cases z : j = i
          · subst z
            rw [hd] at hj
            cases hj
            rw [List.getD_eq_getElem?_getD, List.getElem?_set_self hi]
            exact hw _ _ _ _ _ hP w
          · rw [getD_set_ne z]
            exact w
        · obtain ⟨a1, a2, a3⟩ := r.off j q hq
          refine ⟨a1, a2, ?_⟩
          by_cases z : j = i
          · subst z
            rcases a3 with a3 | ⟨_, a3⟩
            · exact .inl a3
            · rw [hp] at a3; cases a3
          · rw [List.getElem?_set_ne (Ne.symm z)]
            exact a3
        · have h' := hne j k' h
          obtain ⟨a, b⟩ := r.par j k' h
          exact ⟨by rw [List.getElem?_set_ne (Ne.symm h')]; exact a, b⟩
      · rw [if_neg hP] at p
        exact p.elim⟩
theorem c_toOp {Ob O' : List Kd} {t : TS} {b : MS} {k : Kd} (i : Nat) (hk : O.getD i .sh = k) (hp : isPm O[i]? = false) (hi : i < O.length) (h : DC K c Ob (O.set i (.op k)) t b O') : DC K c Ob O t (sWhen i yesD b) O' :=
  c_when i hp hi (fun F H v d fp _ w => by rw [hk] at w; exact .inr w) h
theorem c_noneOp {Ob O' : List Kd} {t : TS} {b : MS} {k : Kd} (i : Nat) (hk : O.getD i .sh = .sh) (hp : isPm O[i]? = false) (hi : i < O.length) (h : DC K c Ob (O.set i (.op k)) t b O') : DC K c Ob O t (sWhen i nonB b) O' :=
  c_when i hp hi (fun F H v d fp hP w => by
    rw [hk] at w
    obtain ⟨w1, w2⟩ : fp = [] ∧ Dp K F v d := w
    cases w2 with
    | non => exact .inl ⟨rfl, rfl, w1⟩
    | _ => cases hP) h
theorem c_opNone {Ob O' : List Kd} {t : TS} {b : MS} {k : Kd} (i : Nat) (hk : O.getD i .sh = .op (.ls k)) (hp : isPm O[i]? = false) (hi : i < O.length) (h : DC K c Ob (O.set i .sh) t b O') : DC K c Ob O t (sWhen i nonB b) O' :=
  c_when i hp hi (fun F H v d fp hP w => by
    rw [hk] at w
    rcases w with ⟨rfl, rfl, rfl⟩ | ⟨_, _, _, _, _, rfl, _⟩
    · exact ⟨rfl, .non⟩
    · cases hP) h
theorem c_opSome {Ob O' : List Kd} {t : TS} {b : MS} {k : Kd} (i : Nat) (hk : O.getD i .sh = .op k) (hp : isPm O[i]? = false) (hi : i < O.length) (h : DC K c Ob (O.set i k) t b O') : DC K c Ob O t (sWhen i notNon b) O' :=
  c_when i hp hi (fun F H v d fp hP w => by
    rw [hk] at w
    rcases w with ⟨rfl, rfl, rfl⟩ | w
    · cases hP
    · exact w) h
end
section
variable {s : DS} {Nx : DS → Prop} {Rt : D → DS → Prop} {Bk Ct : DS → Prop} {Ex : Xc → DS → Prop}
theorem run_when_0 {i : Nat} {P : D → Bool} {b : MS} : Run0 (sWhen i P b) s Nx Rt Bk Ct Ex = So0 (look s i) fun d => P d = true ∧ Run0 b s Nx Rt Bk Ct Ex := by
  unfold Run0 sWhen look
  cases s[i]? with
  | none => rfl
  | some o =>
    cases o with
    | none => rfl
    | some d =>
      dsimp only [So0]
      by_cases h : P d = true
      · rw [if_pos h]; simp [h]
      · rw [if_neg h]; simp [h]
theorem run_when {i : Nat} {P : D → Bool} {b : MS} : Run (sWhen i P b) s Nx Rt Bk Ct Ex = So (look s i) fun d => P d = true ∧ Run b s Nx Rt Bk Ct Ex := by with_unfolding_all exact run_when_0
end
theorem yesD_t {d : D} : (yesD d = true) = True := by unfold yesD; simp
theorem nonB_n : (nonB .none = true) = True := by simp [nonB]
theorem notNon_l {l : List D} : (notNon (.list l) = true) = True := by simp [notNon, nonB]
end Z
set_option Elab.async false
set_option linter.all false
set_option maxRecDepth 100000
set_option maxHeartbeats 1000000
namespace Z
open PySem L2
def rcD (lo c : Int) (n : Nat) : List D := (List.range n).map fun i => .int (lo + (i : Nat) * c)
section
variable {K : Fg} {c : Ctx} {O : List Kd}
def mRev (m : M (Int × Int)) : M (List D) := bnd m fun p => opt (if rngC p.1 p.2 then some (rcD (p.1 + (((p.2 - p.1).toNat : Nat) : Int) - 1) (-1) (p.2 - p.1).toNat) else none)
end
section
variable {s : DS}
theorem ev_rev_0 {m : M (Int × Int)} {Q : List D → DS → Prop} : Ev0 (mRev m) s Q = Ev0 m s fun p s' => rngC p.1 p.2 = true ∧ Q (rcD (p.1 + (((p.2 - p.1).toNat : Nat) : Int) - 1) (-1) (p.2 - p.1).toNat) s' := by
  unfold mRev; rw [ev_bnd_0]; refine ev_ext_0 fun p s' => ?_; rw [ev_opt_0, so_if_0]; rfl
theorem ev_rev {m : M (Int × Int)} {Q : List D → DS → Prop} : Ev (mRev m) s Q = Ev m s fun p s' => rngC p.1 p.2 = true ∧ Q (rcD (p.1 + (((p.2 - p.1).toNat : Nat) : Int) - 1) (-1) (p.2 - p.1).toNat) s' := by with_unfolding_all exact ev_rev_0
end
end Z
set_option Elab.async false
set_option linter.all false
set_option maxRecDepth 100000
set_option maxHeartbeats 1000000
namespace Z
open PySem L2
def scD : D → Bool
  | .none => true
  | .bool _ => true
  | .int _ => true
  | .str _ => true
  | _ => false
def scL : List D → Bool
  | [] => true
  | x :: r => scD x && scL r
mutual
def frzy : Kd → Bool
  | .sh => true
  | .ls k => frzy k
  | .pm k => frzy k
  | .te => true
  | .tc k r => frzy k && frzt r
  | .op k => frzy k
  | _ => false
def frzt : Kd → Bool
  | .te => true
  | .tc k r => frzy k && frzt r
  | _ => false
end
section
variable {K : Fg} {F H : Hp} {fp : List Addr}
theorem ow_frzS {G : Hp} (hs : Same F G) (hG : ∀ q ∈ fp, G q = H q) : ∀ {k : Kd}, (∀ {v : V} {d : D} {fp' : List Addr}, frzy k = true → Ow K F H k v d fp' → (∀ q ∈ fp', q ∈ fp) → Dp K G v d) ∧
    (∀ {xs : List V} {ds : List D} {fs : List (List Addr)}, frzt k = true → (Ow2 K F H k).t xs ds fs → (∀ q ∈ fs.flatten, q ∈ fp) → DpAll K G xs ds) := by
  intro k
  induction k with
  | sh => exact ⟨fun _ h _ => dp_mono hs h.2, fun h => by cases h⟩
  | ls k ih =>
    refine ⟨fun {v d fp'} hl h sub => ?_, fun h => by cases h⟩
    obtain ⟨p, xs, ds, fs, rfl, rfl, hp, rfl, al⟩ := h
    refine .lst (SqL.of (by rw [hG p (sub p List.mem_cons_self)]; exact hp)) ?_
    have al' : All3 (fun v d (f : List Addr) => Dp K G v d) xs ds fs := al.imp fun a b c hc o => ih.1 (by simpa [frzy] using hl) o fun q hq => sub q (List.mem_cons_of_mem _ (List.mem_flatten.mpr ⟨c, hc, hq⟩))
    clear al hp sub
    induction al' with
    | nil => exact .nil
    | cons h _ ih2 => exact .cons h ih2
  | pm k ih => exact ⟨fun {v d fp'} hl h sub => ih.1 (by simpa [frzy] using hl) h sub, fun h => by cases h⟩
  | dc => exact ⟨fun hl => by simp [frzy] at hl, fun h => by cases h⟩
  | oe _ => exact ⟨fun hl => by simp [frzy] at hl, fun h => by cases h⟩
  | of _ _ _ _ _ => exact ⟨fun hl => by simp [frzy] at hl, fun h => by cases h⟩
  | te =>
    refine ⟨fun {v d fp'} _ h sub => ?_, fun {xs ds fs} _ h _ => ?_⟩
    · obtain ⟨p, xs, ds, fs, rfl, rfl, hp, rfl, rfl, rfl, rfl⟩ := h
      exact .tup (SqT.of (by rw [hG p (sub p List.mem_cons_self)]; exact hp)) .nil
    · obtain ⟨rfl, rfl, rfl⟩ := h
      exact .nil
  | tc k r ihk ihr =>
    have key : ∀ {xs : List V} {ds : List D} {fs : List (List Addr)}, (frzy k && frzt r) = true → TcR (Ow2 K F H k).a (Ow2 K F H r).t xs ds fs → (∀ q ∈ fs.flatten, q ∈ fp) → DpAll K G xs ds := fun {xs ds fs} hl h sub => by
      rw [Bool.and_eq_true] at hl
      obtain ⟨x, d, f, xr, dr, fr, rfl, rfl, rfl, h1, h2⟩ := h
      exact .cons (ihk.1 hl.1 h1 fun q hq => sub q (by simp [hq])) (ihr.2 hl.2 h2 fun q hq => sub q (by rw [List.flatten_cons]; exact List.mem_append_right _ hq))
    refine ⟨fun {v d fp'} hl h sub => ?_, fun {xs ds fs} hl h sub => key (by simpa [frzt] using hl) h sub⟩
    obtain ⟨p, xs, ds, fs, rfl, rfl, hp, rfl, ht⟩ := h
    exact .tup (SqT.of (by rw [hG p (sub p List.mem_cons_self)]; exact hp)) (key (by simpa [frzy] using hl) ht fun q hq => sub q (List.mem_cons_of_mem _ hq))
  | op k ih =>
    refine ⟨fun {v d fp'} hl h sub => ?_, fun h => by cases h⟩
    rcases h with ⟨rfl, rfl, rfl⟩ | h
    · exact .non
    · exact ih.1 (by simpa [frzy] using hl) h sub
  | xr _ => exact ⟨fun hl => by simp [frzy] at hl, fun h => by cases h⟩
  | hx _ _ _ => exact ⟨fun hl => by simp [frzy] at hl, fun h => by cases h⟩
  | sd => exact ⟨fun hl => by simp [frzy] at hl, fun h => by cases h⟩
  | sq _ _ => exact ⟨fun hl => by simp [frzy] at hl, fun h => by cases h⟩
  | «at» _ _ _ => exact ⟨fun hl => by simp [frzy] at hl, fun h => by cases h⟩
end
def scO : D → Bool
  | .list xs => scL xs
  | _ => false
def fzSk (js : List Nat) (s : DS) : Bool := js.all fun j => match s[j]? with
  | some (some d) => scO d
  | _ => true
def mFzS (i : Nat) (js : List Nat) (m : M D) : M D := fun s => match s[i]? with
  | some (some _) => match m s with
    | .ok d s' => if scD d && fzSk js s' then .ok d (mix s s' js) else .no
    | .no => .no
  | _ => .no
section
variable {K : Fg} {c : Ctx} {O : List Kd} {t : TE} {m : M D}
end
section
variable {s : DS}
theorem ev_fzS_0 {i : Nat} {js : List Nat} {m : M D} {Q : D → DS → Prop} : Ev0 (mFzS i js m) s Q = So0 (look s i) fun _ => Ev0 m s fun d s' => (scD d && fzSk js s') = true ∧ Q d (mix s s' js) := by
  unfold Ev0 mFzS look
  cases s[i]? with
  | none => rfl
  | some o =>
    cases o with
    | none => rfl
    | some x =>
      simp only [so_some_0]
      cases m s with
      | no => rfl
      | ok d s' =>
        simp only
        by_cases hc : (scD d && fzSk js s') = true
        · simp only [hc, if_true, true_and]
        · simp only [hc, if_false, false_and, Bool.false_eq_true]
theorem ev_fzS {i : Nat} {js : List Nat} {m : M D} {Q : D → DS → Prop} : Ev (mFzS i js m) s Q = So (look s i) fun _ => Ev m s fun d s' => (scD d && fzSk js s') = true ∧ Q d (mix s s' js) := by with_unfolding_all exact ev_fzS_0
end
def plIxT (mp : D → M (List Sel)) (n : Nat) : D → M (List Sel) := fun d => bnd (mp d) fun π => opt (match getP π d with
  | some (.tuple xs) => if n < xs.length then some (π ++ [.ix n]) else none
  | _ => none)
section
variable {K : Fg} {c : Ctx} {O : List Kd} {i n : Nat} {k k1 : Kd} {tp te : TE}
end
section
variable {s : DS}
theorem ev_plIxT_0 {d : D} {mp : D → M (List Sel)} {n : Nat} {Q : List Sel → DS → Prop} : Ev0 (plIxT mp n d) s Q = Ev0 (mp d) s fun π s1 => So0 (getP π d) fun x => So0 (tof x) fun xs => n < xs.length ∧ Q (π ++ [.ix n]) s1 := by
  unfold plIxT
  rw [ev_bnd_0]
  refine ev_ext_0 fun π s1 => ?_
  rw [ev_opt_0]
  cases getP π d with
  | none => rfl
  | some x =>
    cases x with
    | tuple xs =>
      simp only [so_some_0, tof]
      by_cases h : n < xs.length
      · simp only [h, if_true, true_and, so_some_0]
      · simp only [h, if_false, false_and]
        rfl
    | _ => rfl
theorem ev_plIxT {d : D} {mp : D → M (List Sel)} {n : Nat} {Q : List Sel → DS → Prop} : Ev (plIxT mp n d) s Q = Ev (mp d) s fun π s1 => So (getP π d) fun x => So (tof x) fun xs => n < xs.length ∧ Q (π ++ [.ix n]) s1 := by with_unfolding_all exact ev_plIxT_0
end
theorem scD_b {b : Bool} : scD (.bool b) = true := nr rfl
theorem scD_i {i : Int} : scD (.int i) = true := nr rfl
theorem scD_n : scD .none = true := nr rfl
theorem fzS0 {s : DS} : fzSk [] s = true := nr rfl
def scOo : Option D → Bool
  | some d => scO d
  | none => true
theorem fzSC {s : DS} {j : Nat} {js : List Nat} : fzSk (j :: js) s = (scOo (oat s j) && fzSk js s) := by
  show ((match s[j]? with | some (some d) => scO d | _ => true) && fzSk js s) = _
  congr 1
  unfold oat
  cases s[j]? with
  | none => rfl
  | some o => cases o <;> rfl
theorem scOO {d : D} : scOo (some d) = scO d := nr rfl
theorem scON : scOo none = true := nr rfl
theorem notNon_t {l : List D} : (notNon (.tuple l) = true) = True := by simp [notNon, nonB]
section
variable {K : Fg} {c : Ctx} {O : List Kd} {te : TE} {m : M D}
theorem DO.eS {k : Kd} (h : DO K c O k te m) (hl : frzy k = true := by rfl) : DE K c O te m := ⟨fun {F H σ fps ds ds' d} r e Q q => by
  refine h.run r e _ fun F1 H1 fps1 v fpv sF r1 ow hf nd => ?_
  have hF : ∀ q ∈ fpv, F1 q = none := fun q hq => (hf q hq).1
  have s2 := same_frz (H := H1) hF
  have e1 : ∀ q, q ∉ fpv → frzF F1 H1 fpv q = F1 q := fun q hq => if_neg hq
  refine q (frzF F1 H1 fpv) H1 fps1 v (sF.trans s2) ⟨fun b u e => ?_, r1.base.trans s2, r1.keep, r1.live, fun b u e => ?_, fun i d hd => ?_, fun i q hq => ?_, r1.nd, r1.dj, r1.par, r1.len⟩ ((ow_frzS s2 (fp := fpv) (fun q hq => if_pos hq)).1 hl ow fun q hq => hq)
  · by_cases z : b ∈ fpv
    · have : frzF F1 H1 fpv b = H1 b := if_pos z
      rw [this] at e; exact e
    · rw [e1 b z] at e; exact r1.sub b u e
  · by_cases z : b ∈ fpv
    · exact .inr (hf b z).2.2.1
    · rw [e1 b z] at e; exact r1.new b u e
  · obtain ⟨u, hu, w⟩ := r1.slots i d hd
    exact ⟨u, hu, ow_mono s2 w fun _ _ => rfl⟩
  · rw [e1 q fun z => (hf q z).2.2.2 i hq]
    exact r1.off i q hq⟩
end
end Z
set_option Elab.async false
set_option linter.all false
set_option maxRecDepth 100000
set_option maxHeartbeats 1000000
namespace Z
open PySem L2
def idxDp : D → D → Option D
  | .list ds, d => if SeqAt.shaped d && SeqAt.shaped (.list ds) then (ds.findIdx? fun z => PyData.eqv z d).map fun j => .int (j : Nat) else none
  | _, _ => none
def mIdx (a b : M D) : M D := bnd a fun x => bnd b fun y => opt (idxDp x y)
section
variable {K : Fg} {c : Ctx} {O : List Kd} {ta tb : TE} {a b : M D}
end
section
variable {s : DS}
theorem ev_idx_0 {a b : M D} {Q : D → DS → Prop} : Ev0 (mIdx a b) s Q = Ev0 a s fun x s1 => Ev0 b s1 fun y s2 => So0 (idxDp x y) fun d => Q d s2 := by
  unfold mIdx
  rw [ev_bnd_0]
  refine ev_ext_0 fun x s1 => ?_
  rw [ev_bnd_0]
  refine ev_ext_0 fun y s2 => ?_
  rw [ev_opt_0]
theorem ev_idx {a b : M D} {Q : D → DS → Prop} : Ev (mIdx a b) s Q = Ev a s fun x s1 => Ev b s1 fun y s2 => So (idxDp x y) fun d => Q d s2 := by with_unfolding_all exact ev_idx_0
end
end Z
set_option Elab.async false
set_option linter.all false
set_option maxRecDepth 100000
set_option maxHeartbeats 1000000
namespace Z
open PySem L2
section
variable {K : Fg} {c : Ctx} {O Ob : List Kd} {F H F1 H1 F2 H2 : Hp} {σ σ1 σ2 : St} {fps fps1 fps2 : Nat → List Addr} {ds ds1 ds2 : DS}
def finZ (i : Nat) (xs : List D) : RS → RS
  | .nx s => match s[i]? with
    | some (some _) => .nx (s.set i (some (.list xs)))
    | _ => .no
  | .rt d s => .rt d s
  | _ => .no
def sForZS (i : Nat) (mo : M D) (g : MG) (b : MS) : MS := fun s => match s[i]? with
  | some (some (.list _)) => match mo s with
    | .ok (.list ys) s1 => match s1[i]? with
      | some (some (.list xs)) => finZ i xs (loop g b (zipD xs ys) (s1.set i (some .none)))
      | _ => .no
    | _ => .no
  | _ => .no
end
section
variable {s : DS} {Nx : DS → Prop} {Rt : D → DS → Prop} {Bk Ct : DS → Prop} {Ex : Xc → DS → Prop}
theorem run_forZS_0 {i : Nat} {mo : M D} {g : MG} {b : MS} : Run0 (sForZS i mo g b) s Nx Rt Bk Ct Ex = So0 (look s i) fun d0 => So0 (lof d0) fun _ => Ev0 mo s fun d s1 => So0 (lof d) fun ys => So0 (look s1 i) fun d1 => So0 (lof d1) fun xs => Fo0 (zipD xs ys) (s1.set i (some .none)) g b (fun s' => So0 (look s' i) fun _ => Nx (s'.set i (some (.list xs)))) Rt (fun _ => False) (fun _ => False) fun _ _ => False := by
  unfold look
  dsimp only [Run0, sForZS]
  cases h : s[i]? with
  | none => rfl
  | some o =>
    cases o with
    | none => rfl
    | some d0 =>
      cases d0 <;> try rfl
      unfold Ev0
      cases mo s with
      | no => rfl
      | ok d s1 =>
        cases d <;> try rfl
        dsimp only [So0, lof]
        cases h' : s1[i]? with
        | none => rfl
        | some o =>
          cases o with
          | none => rfl
          | some d1 =>
            cases d1 <;> try rfl
            rename_i ys l xs
            dsimp only
            unfold Fo0 Run0
            generalize loop g b (zipD xs l) (s1.set i (some .none)) = L
            cases L with
            | nx s' =>
              unfold finZ
              dsimp only
              cases s'[i]? with
              | none => rfl
              | some o => cases o <;> rfl
            | rt d s' => rfl
            | bk s' => rfl
            | ct s' => rfl
            | ex x s' => rfl
            | no => rfl
theorem run_forZS {i : Nat} {mo : M D} {g : MG} {b : MS} : Run (sForZS i mo g b) s Nx Rt Bk Ct Ex = So (look s i) fun d0 => So (lof d0) fun _ => Ev mo s fun d s1 => So (lof d) fun ys => So (look s1 i) fun d1 => So (lof d1) fun xs => Fo (zipD xs ys) (s1.set i (some .none)) g b (fun s' => So (look s' i) fun _ => Nx (s'.set i (some (.list xs)))) Rt (fun _ => False) (fun _ => False) fun _ _ => False := by with_unfolding_all exact run_forZS_0
end
theorem units65 {k : Nat} {A : Around} (h : Room k A) : A.units + 65 < cLine := by have := h.un; omega
end Z
set_option Elab.async false
set_option linter.all false
set_option maxRecDepth 100000
set_option maxHeartbeats 2000000
namespace Z
open PySem L2 PySem.Spec PyProof.Rows
mutual
theorem nk_hash (w w' : World) : ∀ k : NestedKey, nkI k = true → k.hash w = k.hash w'
  | .none, h => by cases h
  | .num _, _ => rfl
  | .text _, h => by cases h
  | .tup ks, h => by
    show reduceHash (Builtin.Tuple.tupleHashOf (NestedKey.hashes w ks)) = reduceHash (Builtin.Tuple.tupleHashOf (NestedKey.hashes w' ks))
    rw [nk_hashes w w' ks h]
theorem nk_hashes (w w' : World) : ∀ ks : List NestedKey, nkIs ks = true → NestedKey.hashes w ks = NestedKey.hashes w' ks
  | [], _ => rfl
  | k :: r, h => by
    rw [nkIs, Bool.and_eq_true] at h
    show k.hash w :: NestedKey.hashes w r = k.hash w' :: NestedKey.hashes w' r
    rw [nk_hash w w' k h.1, nk_hashes w w' r h.2]
end
section
variable {X : Cx} {pins : List (Addr × Obj)} {σ : L2.St} {H : Hp} {s : Shared}
mutual
theorem dp_nested (I : Inv X pins σ H s) : ∀ (k : NestedKey) (v : V) (u : Value), nkI k = true → Dp X.K H v (nkD k) → RelV v u → NestedIs s.heap k u
  | .none, _, _, h, _, _ => by cases h
  | .text _, _, _, h, _, _ => by cases h
  | .num i, v, u, _, d, r => by
    cases d with
    | int _ =>
      obtain ⟨t, rfl⟩ := (show ∃ t, u = Value.int i t from r)
      exact .int i t
  | .tup ks, v, u, h, d, r => by
    cases d with
    | tup hq al =>
      rename_i a xs
      obtain rfl : u = Value.ref a := r
      obtain ⟨its, rv, ⟨o, ho, hc, n, hd⟩, _⟩ := I.tuple hq
      exact .tup ho hc hd (by simpa using dp_nestedA I ks xs its h al rv)
theorem dp_nestedA (I : Inv X pins σ H s) : ∀ (ks : List NestedKey) (vs : List V) (us : List Value), nkIs ks = true → DpAll X.K H vs (nkDs ks) → Vals vs us → NestedAll s.heap ks us
  | [], vs, us, _, d, r => by
    cases d
    cases r
    exact .nil
  | k :: ks, vs, us, h, d, r => by
    rw [nkIs, Bool.and_eq_true] at h
    cases d with
    | cons d1 d2 =>
      cases r with
      | cons r1 r2 => exact .cons (dp_nested I k _ _ h.1 d1 r1) (dp_nestedA I ks _ _ h.2 d2 r2)
end
end
def NK (K : Fg) (H : Hp) (k : NestedKey) (b : Addr) : Prop := nkI k = true ∧ k.depth ≤ 8 ∧ Dp K H (.ref b) (nkD k)
def NKs (K : Fg) (H : Hp) (xs : List NdX) : Prop := ∀ x ∈ xs, NK K H x.1 x.2.1
def nVal (xs : List NdX) (k : NestedKey) : Option V := (xs.find? fun x => decide (x.1 = k)).map (·.2.2)
def nPut (xs : List NdX) (k : NestedKey) (b : Addr) (v : V) : List NdX :=
  if (nVal xs k).isSome = true then xs.map (fun x => if x.1 = k then (x.1, x.2.1, v) else x) else xs ++ [(k, b, v)]
theorem nPut_mem {xs : List NdX} {k : NestedKey} {b : Addr} {v : V} {x : NdX} (h : x ∈ nPut xs k b v) : (∃ y ∈ xs, y.1 = x.1 ∧ y.2.1 = x.2.1) ∨ (x.1 = k ∧ x.2.1 = b) := by
  unfold nPut at h
  split at h
  · obtain ⟨y, hy, e⟩ := List.mem_map.mp h
    left
    refine ⟨y, hy, ?_⟩
    by_cases z : y.1 = k
    · rw [if_pos z] at e; subst e; exact ⟨rfl, rfl⟩
    · rw [if_neg z] at e; subst e; exact ⟨rfl, rfl⟩
  · rcases List.mem_append.mp h with h | h
    · exact .inl ⟨x, h, rfl, rfl⟩
    · rw [List.mem_singleton] at h; subst h; exact .inr ⟨rfl, rfl⟩
theorem NKs.put {K : Fg} {H : Hp} {xs : List NdX} {k : NestedKey} {b : Addr} (h : NKs K H xs) (hk : NK K H k b) (v : V) : NKs K H (nPut xs k b v) := fun x hx => by
  rcases nPut_mem hx with ⟨y, hy, e1, e2⟩ | ⟨e1, e2⟩
  · rw [← e1, ← e2]; exact h y hy
  · rw [e1, e2]; exact hk
theorem NK.mono {K : Fg} {H H' : Hp} (e : Same H H') {k : NestedKey} {b : Addr} (h : NK K H k b) : NK K H' k b := ⟨h.1, h.2.1, dp_mono e h.2.2⟩
theorem NKs.mono {K : Fg} {H H' : Hp} (e : Same H H') {xs : List NdX} (h : NKs K H xs) : NKs K H' xs := fun x hx => (h x hx).mono e
section
variable {X : Cx} {pins : List (Addr × Obj)} {σ : L2.St} {H : Hp} {s : Shared} {a : Addr} {y v : V} {u r : Value} {o : Option V} {A : Around} {E : Value → Shared → Prop}
end
section
variable {X : Cx} {o i e f value : Expr} {pos pos' apos cpos : Pos} {td ty tv tx : TE}
end
end Z
set_option Elab.async false
set_option linter.all false
set_option maxRecDepth 100000
set_option maxHeartbeats 2000000
namespace Z
open PySem L2 PySem.Spec
open PyProof.Rows in
mutual
def keq : D → D → Bool
  | .int a, .int b => decide (a = b)
  | .str a, .str b => decide (a = b)
  | .tuple a, .tuple b => keqs a b
  | _, _ => false
def keqs : List D → List D → Bool
  | [], [] => true
  | a :: as, b :: bs => keq a b && keqs as bs
  | _, _ => false
end
mutual
def kyN : D → Bool
  | .int _ => true
  | .tuple xs => kyNs xs
  | _ => false
def kyNs : List D → Bool
  | [] => true
  | a :: as => kyN a && kyNs as
end
mutual
def nkOf : D → NestedKey
  | .int i => .num i
  | .tuple xs => .tup (nkOfs xs)
  | _ => .none
def nkOfs : List D → List NestedKey
  | [] => []
  | a :: as => nkOf a :: nkOfs as
end
def kyOk : Nat → D → Bool
  | 0, .int _ => true
  | 0, .str _ => true
  | 0, _ => false
  | _ + 1, .tuple xs => kyNs xs && decide ((nkOf (.tuple xs)).depth ≤ 8)
  | _ + 1, _ => false
def dget (k : D) : List (D × D) → Option D
  | [] => none
  | (a, d) :: r => if keq a k then some d else dget k r
def dput (k v : D) (l : List (D × D)) : List (D × D) := if (dget k l).isSome then l.map (fun p => if keq p.1 k then (p.1, v) else p) else l ++ [(k, v)]
theorem keq_key (a b : Key) : keq (keyD a) (keyD b) = decide (a = b) := by
  cases a <;> cases b <;> simp [keyD, keq]
mutual
theorem keq_nk : ∀ a b : NestedKey, nkI a = true → nkI b = true → keq (nkD a) (nkD b) = decide (a = b)
  | .num i, .num j, _, _ => by simp [nkD, keq]
  | .num i, .tup ks, _, _ => by simp [nkD, keq]
  | .tup ks, .num j, _, _ => by simp [nkD, keq]
  | .tup ks, .tup ls, h, h' => by
    show keqs (nkDs ks) (nkDs ls) = _
    rw [keqs_nk ks ls h h']
    simp
  | .none, _, h, _ => by cases h
  | .text _, _, h, _ => by cases h
  | .num _, .none, _, h => by cases h
  | .num _, .text _, _, h => by cases h
  | .tup _, .none, _, h => by cases h
  | .tup _, .text _, _, h => by cases h
theorem keqs_nk : ∀ a b : List NestedKey, nkIs a = true → nkIs b = true → keqs (nkDs a) (nkDs b) = decide (a = b)
  | [], [], _, _ => by simp [nkDs, keqs]
  | [], _ :: _, _, _ => by simp [nkDs, keqs]
  | _ :: _, [], _, _ => by simp [nkDs, keqs]
  | a :: as, b :: bs, h, h' => by
    rw [nkIs, Bool.and_eq_true] at h h'
    show (keq (nkD a) (nkD b) && keqs (nkDs as) (nkDs bs)) = _
    rw [keq_nk a b h.1 h'.1, keqs_nk as bs h.2 h'.2]
    simp
end
mutual
theorem nk_of : ∀ d : D, kyN d = true → nkD (nkOf d) = d ∧ nkI (nkOf d) = true
  | .int i, _ => ⟨rfl, rfl⟩
  | .tuple xs, h => by
    obtain ⟨a, b⟩ := nks_of xs (by simpa [kyN] using h)
    exact ⟨by show PyData.tuple (nkDs (nkOfs xs)) = _; rw [a], b⟩
  | .none, h => by simp [kyN] at h
  | .bool _, h => by simp [kyN] at h
  | .str _, h => by simp [kyN] at h
  | .list _, h => by simp [kyN] at h
  | .dict _, h => by simp [kyN] at h
theorem nks_of : ∀ ds : List D, kyNs ds = true → nkDs (nkOfs ds) = ds ∧ nkIs (nkOfs ds) = true
  | [], _ => ⟨rfl, rfl⟩
  | d :: ds, h => by
    rw [kyNs, Bool.and_eq_true] at h
    obtain ⟨a, b⟩ := nk_of d h.1
    obtain ⟨a', b'⟩ := nks_of ds h.2
    exact ⟨by show nkD (nkOf d) :: nkDs (nkOfs ds) = _; rw [a, a'], by show (nkI (nkOf d) && nkIs (nkOfs ds)) = true; rw [b, b']; rfl⟩
end
theorem ky0 {K : Fg} {F : Hp} {v : V} {d : D} (h : Dp K F v d) (k : kyOk 0 d = true) : ∃ x : Key, v = kV x ∧ d = keyD x := by
  cases h with
  | int i => exact ⟨.inl i, rfl, rfl⟩
  | str x => exact ⟨.inr x, rfl, rfl⟩
  | _ => cases k
section
variable {K : Fg} {F : Hp}
theorem kvR_get {kvs : List (Key × V)} {ds : List (D × D)} (h : KvR K F keyD kvs ds) (k : Key) : (∃ v d, valV kvs k = some v ∧ dget (keyD k) ds = some d ∧ Dp K F v d) ∨ (valV kvs k = none ∧ dget (keyD k) ds = none) := by
  induction h with
  | nil => exact .inr ⟨rfl, rfl⟩
  | @cons k' v d kvs ds h t ih =>
    by_cases e : k' = k
    · rw [valV_pos (p := (k', v)) e]
      have : dget (keyD k) ((keyD k', d) :: ds) = some d := by unfold dget; rw [keq_key, e]; simp
      rw [this]
      exact .inl ⟨v, d, rfl, rfl, h⟩
    · rw [valV_neg (p := (k', v)) e]
      have : dget (keyD k) ((keyD k', d) :: ds) = dget (keyD k) ds := by conv => lhs; unfold dget
                                                                         rw [keq_key]; simp [e]
      rw [this]
      exact ih
theorem kvR_repl {kvs : List (Key × V)} {ds : List (D × D)} (h : KvR K F keyD kvs ds) (k : Key) {v : V} {d : D} (hv : Dp K F v d) :
    KvR K F keyD (kvs.map fun kv => if kv.1 = k then (kv.1, v) else kv) (ds.map fun p => if keq p.1 (keyD k) then (p.1, d) else p) := by
  induction h with
  | nil => exact .nil
  | @cons k' v' d' kvs ds h t ih =>
    rw [List.map_cons, List.map_cons]
    dsimp only
    rw [keq_key]
    by_cases e : k' = k
    · rw [if_pos e, if_pos (by simp [e])]; exact .cons hv ih
    · rw [if_neg e, if_neg (by simp [e])]; exact .cons h ih
theorem kvR_snoc {kvs : List (Key × V)} {ds : List (D × D)} (h : KvR K F keyD kvs ds) (k : Key) {v : V} {d : D} (hv : Dp K F v d) : KvR K F keyD (kvs ++ [(k, v)]) (ds ++ [(keyD k, d)]) := by
  induction h with
  | nil => exact .cons hv .nil
  | cons h t ih => exact .cons h ih
theorem kvR_put {kvs : List (Key × V)} {ds : List (D × D)} (h : KvR K F keyD kvs ds) (k : Key) {v : V} {d : D} (hv : Dp K F v d) : KvR K F keyD (putK kvs k v) (dput (keyD k) d ds) := by
  unfold putK dput
  rw [valV_any]
  rcases kvR_get h k with ⟨v', d', e1, e2, _⟩ | ⟨e1, e2⟩
  · rw [e1, e2]; exact kvR_repl h k hv
  · rw [e1, e2]; exact kvR_snoc h k hv
theorem kvR_len {κ : Type} {kd : κ → D} {kvs : List (κ × V)} {ds : List (D × D)} (h : KvR K F kd kvs ds) : kvs.length = ds.length := by
  induction h with
  | nil => rfl
  | cons _ _ ih => simp [ih]
end
section
variable {K : Fg} {c : Ctx} {O Ob O' : List Kd} {F H : Hp} {σ : St} {fps : Nat → List Addr} {ds : DS} {te ta tb tx : TE} {m mk mx : M D} {n i : Nat}
def dctD : D → Option (List (D × D))
  | .dict l => some l
  | _ => none
theorem dc_ow {k : Kd} {v : V} {d : D} {fp : List Addr} (hk : unpm k = .dc n) (h : Ow K F H k v d fp) : ∃ p dk, v = .ref p ∧ d = .dict dk ∧ fp = [p] ∧ DcR K F H n p dk := by
  rw [← ow_unpm, hk] at h
  exact h
def dgA (n i : Nat) (k : D) : M D := fun s' => match look s' i with
    | some d => match dctD d with
      | some kvs => if kyOk n k then opt (dget k kvs) s' else .no
      | none => .no
    | none => .no
def mDGet (n i : Nat) (mk : M D) : M D := fun s => match look s i with
  | some _ => bnd mk (dgA n i) s
  | none => .no
theorem d_dget (i : Nat) (hi : unpm (O.getD i .sh) = .dc 0) (he : DE K c O te mk) : DE K c O (tDGet (tVar i) te) (mDGet 0 i mk) := ⟨fun {F H σ fps ds ds' d} r e Q q => by
  unfold mDGet at e
  split at e
  · rename_i d0 hd0
    obtain ⟨k, s1, e1, e⟩ := bnd_ok e
    obtain ⟨w, hw, _⟩ := r.slots i d0 (look_some hd0)
    refine ⟨w, hw, he.run r e1 _ fun F1 H1 fps1 v sF r1 dp => ?_⟩
    unfold dgA at e
    split at e
    · rename_i d1 hd1
      obtain ⟨w1, hw1, ow⟩ := r1.slots i d1 (look_some hd1)
      rw [hw] at hw1
      cases hw1
      obtain ⟨p, dk, rfl, rfl, hf, kvs, hp, kr⟩ := dc_ow hi ow
      dsimp only [dctD] at e
      split at e
      · rename_i hk
        obtain ⟨e, rfl⟩ := opt_ok e
        obtain ⟨x, rfl, rfl⟩ := ky0 dp hk
        rcases kvR_get kr x with ⟨u, d2, g1, g2, g3⟩ | ⟨_, g2⟩
        · rw [g2] at e
          cases e
          exact ⟨p, u, rfl, .inl ⟨kvs, x, .inl hp, rfl, g1.symm⟩, q F1 H1 fps1 u sF r1 g3⟩
        · rw [g2] at e; cases e
      · cases e
    · cases e
  · cases e⟩
def dgB (n i : Nat) (k x : D) : M D := fun s' => match look s' i with
    | some d => match dctD d with
      | some kvs => if kyOk n k then .ok ((dget k kvs).getD x) s' else .no
      | none => .no
    | none => .no
def mDGet2 (n i : Nat) (mk mx : M D) : M D := fun s => match look s i with
  | some _ => bnd mk (fun k => bnd mx (dgB n i k)) s
  | none => .no
def mDIn (n i : Nat) (neg : Bool) (mk : M D) : M D := bnd mk fun k => fun s' => match look s' i with
    | some d => match dctD d with
      | some kvs => if kyOk n k then .ok (.bool (if neg then !(dget k kvs).isSome else (dget k kvs).isSome)) s' else .no
      | none => .no
    | none => .no
theorem d_din (i : Nat) (hi : unpm (O.getD i .sh) = .dc 0) (he : DE K c O te mk) : DE K c O (tDIn te (tVar i)) (mDIn 0 i false mk) ∧ DE K c O (tDNotIn te (tVar i)) (mDIn 0 i true mk) := by
  have key : ∀ (neg : Bool) {F H : Hp} {σ : St} {fps : Nat → List Addr} {ds ds' : DS} {d : D}, Rel K c O F H σ fps ds → mDIn 0 i neg mk ds = .ok d ds' → ∀ Q : VK, (∀ F' H' fps' v, Same F F' → Rel K c O F' H' σ fps' ds' → Dp K F' v d → Q v H') →
      te σ H fun y H1 => ∃ x, σ[i]? = some (some x) ∧ ∃ a o, x = .ref a ∧ DGet H1 a y o ∧ Q (.bl (if neg then !o.isSome else o.isSome)) H1 := by
    intro neg F H σ fps ds ds' d r e Q q
    unfold mDIn at e
    obtain ⟨k, s1, e1, e⟩ := bnd_ok e
    refine he.run r e1 _ fun F1 H1 fps1 v sF r1 dp => ?_
    split at e
    · rename_i d1 hd1
      obtain ⟨w1, hw1, ow⟩ := r1.slots i d1 (look_some hd1)
      obtain ⟨p, dk, rfl, rfl, hf, kvs, hp, kr⟩ := dc_ow hi ow
      dsimp only [dctD] at e
      split at e
      · rename_i hk
        cases e
        obtain ⟨x, rfl, rfl⟩ := ky0 dp hk
        rcases kvR_get kr x with ⟨u, d2, g1, g2, g3⟩ | ⟨g1, g2⟩
        · rw [g2] at q
          exact ⟨_, hw1, p, some u, rfl, .inl ⟨kvs, x, .inl hp, rfl, g1.symm⟩, q F1 H1 fps1 _ sF r1 (.bl _)⟩
        · rw [g2] at q
          exact ⟨_, hw1, p, none, rfl, .inl ⟨kvs, x, .inl hp, rfl, g1.symm⟩, q F1 H1 fps1 _ sF r1 (.bl _)⟩
      · cases e
    · cases e
  exact ⟨⟨fun r e Q q => key false r e Q q⟩, ⟨fun r e Q q => key true r e Q q⟩⟩
def sDPutD (n i : Nat) (mk m : M D) : MS := fun s => match m s with
  | .ok v s1 => match look s1 i with
    | some _ => match mk s1 with
      | .ok k s2 => match look s2 i with
        | some d => match dctD d with
          | some kvs => if kyOk n k && decide (kvs.length < sizeLine) then .nx (s2.set i (some (.dict (dput k v kvs)))) else .no
          | none => .no
        | none => .no
      | .no => .no
    | none => .no
  | .no => .no
def mDNew : M D := fun s => .ok (.dict []) s
end
end Z
set_option Elab.async false
set_option linter.all false
set_option maxRecDepth 100000
set_option maxHeartbeats 2000000
namespace Z
open PySem L2 PySem.Spec
section
variable {K : Fg} {F H : Hp} {p : Addr} {od : Obj} {kvs : List (Key × V)} {o : HO}
mutual
theorem dp_unlock (hp : F p = some (.frz od (.dK kvs))) : ∀ {v : V} {d : D}, Dp K F v d → Dp K (minF F [p]) v d
  | _, _, .non => .non
  | _, _, .bl b => .bl b
  | _, _, .int i => .int i
  | _, _, .str x => .str x
  | _, _, .lst (a := a) h r => .lst (by
      rcases h with (h | ⟨o, h⟩) | h
      · have : a ≠ p := fun z => by subst z; rw [hp] at h; cases h
        exact .inl (.inl (by rw [minF_out (by simpa using this)]; exact h))
      · have : a ≠ p := fun z => by subst z; rw [hp] at h; cases h
        exact .inl (.inr ⟨o, by rw [minF_out (by simpa using this)]; exact h⟩)
      · exact .inr h) (dpa_unlock hp r)
  | _, _, .tup (a := a) h r => .tup (by
      rcases h with (h | ⟨o, h⟩) | h
      · have : a ≠ p := fun z => by subst z; rw [hp] at h; cases h
        exact .inl (.inl (by rw [minF_out (by simpa using this)]; exact h))
      · have : a ≠ p := fun z => by subst z; rw [hp] at h; cases h
        exact .inl (.inr ⟨o, by rw [minF_out (by simpa using this)]; exact h⟩)
      · exact .inr h) (dpa_unlock hp r)
theorem dpa_unlock (hp : F p = some (.frz od (.dK kvs))) : ∀ {vs : List V} {ds : List D}, DpAll K F vs ds → DpAll K (minF F [p]) vs ds
  | _, _, .nil => .nil
  | _, _, .cons h r => .cons (dp_unlock hp h) (dpa_unlock hp r)
end
end
section
variable {K : Fg} {c : Ctx} {O Ob O' : List Kd} {F H : Hp} {σ : L2.St} {fps : Nat → List Addr} {ds : DS} {te ta tb tx : TE} {m mk mx : M D} {n i : Nat} {t : TS} {b : MS}
def mKeysS (i : Nat) : M (List D) := fun s => match look s i with
  | some d => match dctD d with
    | some kvs => .ok (kvs.map (·.1)) s
    | none => .no
  | none => .no
def sLock (i : Nat) (b : MS) : MS := fun s => match look s i with
  | some d => match dctD d with
    | some _ => match b s with
      | .nx s' => match look s' i with
        | some _ => .nx s'
        | none => .no
      | _ => .no
    | none => .no
  | none => .no
inductive PrOk (K : Fg) (O : List Kd) : List (TE × TE) → List (M D × M D) → Prop
  | nil : PrOk K O [] []
  | cons {tk tv : TE} {mk mv : M D} {ts : List (TE × TE)} {ms : List (M D × M D)} : (∀ c, DE K c O tk mk) → (∀ c, DE K c O tv mv) → PrOk K O ts ms → PrOk K O ((tk, tv) :: ts) ((mk, mv) :: ms)
def mPrs : List (M D × M D) → M (List (D × D))
  | [] => fun s => .ok [] s
  | (mk, mv) :: r => bnd mk fun k => bnd mv fun v => bnd (mPrs r) fun l => fun s => .ok ((k, v) :: l) s
def prsOk (l : List (D × D)) : Bool := l.all (fun p => kyOk 0 p.1) && decide (l.length ≤ 15)
def mDisp (ms : List (M D × M D)) : M D := bnd (mPrs ms) fun l => opt (if prsOk l then some (.dict (l.foldl (fun a p => dput p.1 p.2 a) [])) else none)
theorem prs_run {ts : List (TE × TE)} {ms : List (M D × M D)} (h : PrOk K O ts ms) : ∀ {F H : Hp} {σ : L2.St} {fps : Nat → List Addr} {ds ds' : DS} {l : List (D × D)}, Rel K c O F H σ fps ds → mPrs ms ds = .ok l ds' → l.all (fun p => kyOk 0 p.1) = true → ∀ Q : List (V × V) → Hp → Prop,
    (∀ F' H' fps' kvs, Same F F' → Rel K c O F' H' σ fps' ds' → KvR K F' keyD kvs l → Q (kvs.map fun kv => (kV kv.1, kv.2)) H') → tPairs ts σ H Q := by
  induction h with
  | nil =>
    intro F H σ fps ds ds' l r e _ Q q
    cases e
    exact q F H fps [] (Same.refl _) r .nil
  | cons hk hv t ih =>
    intro F H σ fps ds ds' l r e hl Q q
    obtain ⟨k, s1, e1, e⟩ := bnd_ok e
    obtain ⟨v, s2, e2, e⟩ := bnd_ok e
    obtain ⟨l', s3, e3, e⟩ := bnd_ok e
    cases e
    rw [List.all_cons, Bool.and_eq_true] at hl
    refine (hk c).run r e1 _ fun F1 H1 fps1 vk sF1 r1 dk => (hv c).run r1 e2 _ fun F2 H2 fps2 vv sF2 r2 dv => ih r2 e3 hl.2 _ fun F3 H3 fps3 kvs sF3 r3 kr => ?_
    obtain ⟨x, rfl, rfl⟩ := ky0 dk hl.1
    exact q F3 H3 fps3 ((x, vv) :: kvs) ((sF1.trans sF2).trans sF3) r3 (.cons (dp_mono sF3 dv) kr)
theorem kvR_merge {more : List (Key × V)} {l : List (D × D)} (h : KvR K F keyD more l) : ∀ {kvs : List (Key × V)} {dk : List (D × D)}, KvR K F keyD kvs dk → KvR K F keyD (mergeK kvs more) (l.foldl (fun a p => dput p.1 p.2 a) dk) := by
  induction h with
  | nil => exact fun r => r
  | @cons k v d kvs ds h t ih =>
    intro kvs' dk r
    exact ih (kvR_put r k h)
theorem o_disp {ts : List (TE × TE)} {ms : List (M D × M D)} (h : PrOk K O ts ms) : DO K c O (.dc 0) (tDisp ts) (mDisp ms) := ⟨fun {F H σ fps ds ds' d} r e Q q => by
  obtain ⟨l, s1, e1, e⟩ := bnd_ok e
  obtain ⟨e, rfl⟩ := opt_ok e
  split at e
  · rename_i hl
    cases e
    unfold prsOk at hl
    rw [Bool.and_eq_true] at hl
    intro p hp
    obtain ⟨h1, h2, h3⟩ := r.fresh hp
    have ra : Rel K c O F (upd H p (.dK [])) σ fps ds := r.allocO hp _
    refine prs_run (c := c.from O F (upd H p (.dK [])) fps) h ra.focus e1 hl.1 _ fun F2 H2 fps2 kvs sF r2 kr => ?_
    obtain ⟨g1, g2, g3⟩ := r2.out (q := p) h1 (by rw [upd_same]; simp) h3
    rw [upd_same] at g1
    refine ⟨g1, kvs, rfl, by rw [kvR_len kr]; exact of_decide_eq_true hl.2, ?_⟩
    have ru := ra.unfocus r2
    have rw' := ru.updO (p := p) g2 h2 g3 (.dK (mergeK [] kvs))
    refine q F2 _ fps2 (.ref p) [p] sF rw' ⟨p, _, rfl, rfl, rfl, _, upd_same, kvR_merge kr .nil⟩ (fun q hq => ?_) (by simp)
    have : q = p := by simpa using hq
    subst this
    exact ⟨g2, by rw [upd_same]; simp, h2, g3⟩
  · cases e⟩
def kIntsD : List (D × D) → Option (List Int)
  | [] => some []
  | (.int i, _) :: r => (kIntsD r).map (i :: ·)
  | _ :: _ => none
def maxL : List Int → Option Int
  | [] => none
  | a :: r => some (r.foldl max a)
def mMaxD (i : Nat) : M D := fun s => match look s i with
  | some d => match dctD d with
    | some kvs => match kIntsD kvs with
      | some ns => opt ((maxL ns).map .int) s
      | none => .no
    | none => .no
  | none => .no
def mDLen (i : Nat) : M D := fun s => match look s i with
  | some d => match dctD d with
    | some kvs => .ok (.int kvs.length) s
    | none => .no
  | none => .no
def insPr (p : Int × Int) : List (Int × Int) → List (Int × Int)
  | [] => [p]
  | q :: r => if SrtO.lexB q p then q :: insPr p r else p :: q :: r
def sortPr : List (Int × Int) → List (Int × Int)
  | [] => []
  | p :: r => insPr p (sortPr r)
def pairsD : List (D × D) → Option (List (Int × Int))
  | [] => some []
  | (.tuple [.int a, .int b], _) :: r => (pairsD r).map ((a, b) :: ·)
  | _ :: _ => none
def prD (p : Int × Int) : D := .tuple [.int p.1, .int p.2]
def mSortD (i : Nat) : M D := fun s => match look s i with
  | some d => match dctD d with
    | some kvs => match pairsD kvs with
      | some ps => .ok (.list ((sortPr ps).map prD)) s
      | none => .no
    | none => .no
  | none => .no
end
end Z
set_option Elab.async false
set_option linter.all false
set_option maxRecDepth 100000
set_option maxHeartbeats 2000000
namespace Z
open PySem L2
section
variable {s : DS} {Nx Bk Ct : DS → Prop} {Ex : Xc → DS → Prop} {Rt : D → DS → Prop} {n i : Nat} {mk mx m : M D} {Q : D → DS → Prop}
theorem ev_dget_0 : Ev0 (mDGet n i mk) s Q = So0 (look s i) fun _ => Ev0 mk s fun k s' => So0 (look s' i) fun d => So0 (dctD d) fun kvs => kyOk n k = true ∧ So0 (dget k kvs) fun x => Q x s' := by
  have key : Ev0 (mDGet n i mk) s Q = So0 (look s i) fun _ => Ev0 (bnd mk (dgA n i)) s Q := by
    unfold Ev0 mDGet
    cases look s i <;> rfl
  rw [key, ev_bnd_0]
  congr 1
  funext _
  refine ev_ext_0 fun k s' => ?_
  unfold dgA
  dsimp only [Ev0]
  cases look s' i with
  | none => rfl
  | some d =>
    dsimp only [So0]
    cases dctD d with
    | none => rfl
    | some kvs =>
      dsimp only
      by_cases z : kyOk n k = true
      · rw [if_pos z]
        unfold opt
        cases dget k kvs <;> simp [z]
      · rw [if_neg z]; simp [z]
theorem ev_dget : Ev (mDGet n i mk) s Q = So (look s i) fun _ => Ev mk s fun k s' => So (look s' i) fun d => So (dctD d) fun kvs => kyOk n k = true ∧ So (dget k kvs) fun x => Q x s' := by with_unfolding_all exact ev_dget_0
theorem ev_dget2_0 : Ev0 (mDGet2 n i mk mx) s Q = So0 (look s i) fun _ => Ev0 mk s fun k s1 => Ev0 mx s1 fun x s' => So0 (look s' i) fun d => So0 (dctD d) fun kvs => kyOk n k = true ∧ Q ((dget k kvs).getD x) s' := by
  have key : Ev0 (mDGet2 n i mk mx) s Q = So0 (look s i) fun _ => Ev0 (bnd mk fun k => bnd mx (dgB n i k)) s Q := by
    unfold Ev0 mDGet2
    cases look s i <;> rfl
  rw [key, ev_bnd_0]
  congr 1
  funext _
  refine ev_ext_0 fun k s1 => ?_
  rw [ev_bnd_0]
  refine ev_ext_0 fun x s' => ?_
  unfold dgB
  dsimp only [Ev0]
  cases look s' i with
  | none => rfl
  | some d =>
    dsimp only [So0]
    cases dctD d with
    | none => rfl
    | some kvs =>
      dsimp only
      by_cases z : kyOk n k = true
      · rw [if_pos z]; simp [z]
      · rw [if_neg z]; simp [z]
theorem ev_dget2 : Ev (mDGet2 n i mk mx) s Q = So (look s i) fun _ => Ev mk s fun k s1 => Ev mx s1 fun x s' => So (look s' i) fun d => So (dctD d) fun kvs => kyOk n k = true ∧ Q ((dget k kvs).getD x) s' := by with_unfolding_all exact ev_dget2_0
theorem ev_din_0 {g : Bool} : Ev0 (mDIn n i g mk) s Q = Ev0 mk s fun k s' => So0 (look s' i) fun d => So0 (dctD d) fun kvs => kyOk n k = true ∧ Q (.bool (g.xor (dget k kvs).isSome)) s' := by
  unfold mDIn
  rw [ev_bnd_0]
  refine ev_ext_0 fun k s' => ?_
  dsimp only [Ev0]
  cases look s' i with
  | none => rfl
  | some d =>
    dsimp only [So0]
    cases dctD d with
    | none => rfl
    | some kvs =>
      dsimp only
      by_cases z : kyOk n k = true
      · rw [if_pos z]
        cases g <;> simp [z]
      · rw [if_neg z]; simp [z]
theorem ev_din {g : Bool} : Ev (mDIn n i g mk) s Q = Ev mk s fun k s' => So (look s' i) fun d => So (dctD d) fun kvs => kyOk n k = true ∧ Q (.bool (g.xor (dget k kvs).isSome)) s' := by with_unfolding_all exact ev_din_0
theorem run_dput_0 : Run0 (sDPutD n i mk m) s Nx Rt Bk Ct Ex = Ev0 m s fun v s1 => So0 (look s1 i) fun _ => Ev0 mk s1 fun k s2 => So0 (look s2 i) fun d => So0 (dctD d) fun kvs => kyOk n k = true ∧ kvs.length < sizeLine ∧ Nx (s2.set i (some (.dict (dput k v kvs)))) := by
  unfold Run0 sDPutD Ev0
  cases m s with
  | no => rfl
  | ok v s1 =>
    dsimp only
    cases look s1 i with
    | none => rfl
    | some _ =>
      dsimp only [So0]
      cases mk s1 with
      | no => rfl
      | ok k s2 =>
        dsimp only
        cases look s2 i with
        | none => rfl
        | some d =>
          dsimp only
          cases dctD d with
          | none => rfl
          | some kvs =>
            dsimp only
            by_cases z : kyOk n k = true
            · by_cases y : kvs.length < sizeLine
              · simp [z, y]
              · simp [z, y]
            · simp [z]
theorem run_dput : Run (sDPutD n i mk m) s Nx Rt Bk Ct Ex = Ev m s fun v s1 => So (look s1 i) fun _ => Ev mk s1 fun k s2 => So (look s2 i) fun d => So (dctD d) fun kvs => kyOk n k = true ∧ kvs.length < sizeLine ∧ Nx (s2.set i (some (.dict (dput k v kvs)))) := by with_unfolding_all exact run_dput_0
theorem ev_dnew_0 : Ev0 mDNew s Q = Q (.dict []) s := rfl
theorem ev_dnew : Ev mDNew s Q = Q (.dict []) s := by with_unfolding_all exact ev_dnew_0
theorem ev_prs0_0 {Q : List (D × D) → DS → Prop} : Ev0 (mPrs []) s Q = Q [] s := rfl
theorem ev_prs0 {Q : List (D × D) → DS → Prop} : Ev (mPrs []) s Q = Q [] s := by with_unfolding_all exact ev_prs0_0
theorem ev_prsC_0 {mv : M D} {r : List (M D × M D)} {Q : List (D × D) → DS → Prop} : Ev0 (mPrs ((mk, mv) :: r)) s Q = Ev0 mk s fun k s1 => Ev0 mv s1 fun v s2 => Ev0 (mPrs r) s2 fun l s' => Q ((k, v) :: l) s' := by
  show Ev0 (bnd mk fun k => bnd mv fun v => bnd (mPrs r) fun l => fun s => R.ok ((k, v) :: l) s) s Q = _
  rw [ev_bnd_0]
  refine ev_ext_0 fun k s1 => ?_
  rw [ev_bnd_0]
  refine ev_ext_0 fun v s2 => ?_
  rw [ev_bnd_0]
  refine ev_ext_0 fun l s' => ?_
  rfl
theorem ev_prsC {mv : M D} {r : List (M D × M D)} {Q : List (D × D) → DS → Prop} : Ev (mPrs ((mk, mv) :: r)) s Q = Ev mk s fun k s1 => Ev mv s1 fun v s2 => Ev (mPrs r) s2 fun l s' => Q ((k, v) :: l) s' := by with_unfolding_all exact ev_prsC_0
theorem ev_disp_0 {ms : List (M D × M D)} : Ev0 (mDisp ms) s Q = Ev0 (mPrs ms) s fun l s' => prsOk l = true ∧ Q (.dict (l.foldl (fun a p => dput p.1 p.2 a) [])) s' := by
  unfold mDisp
  rw [ev_bnd_0]
  refine ev_ext_0 fun l s' => ?_
  dsimp only [Ev0, opt]
  by_cases z : prsOk l = true
  · rw [if_pos z]; simp [z]
  · rw [if_neg z]; simp [z]
theorem ev_disp {ms : List (M D × M D)} : Ev (mDisp ms) s Q = Ev (mPrs ms) s fun l s' => prsOk l = true ∧ Q (.dict (l.foldl (fun a p => dput p.1 p.2 a) [])) s' := by with_unfolding_all exact ev_disp_0
theorem ev_keysS_0 {Q : List D → DS → Prop} : Ev0 (mKeysS i) s Q = So0 (look s i) fun d => So0 (dctD d) fun kvs => Q (kvs.map (·.1)) s := by
  unfold Ev0 mKeysS
  cases look s i with
  | none => rfl
  | some d => dsimp only [So0]; cases dctD d <;> rfl
theorem ev_keysS {Q : List D → DS → Prop} : Ev (mKeysS i) s Q = So (look s i) fun d => So (dctD d) fun kvs => Q (kvs.map (·.1)) s := by with_unfolding_all exact ev_keysS_0
theorem run_lock_0 {b : MS} : Run0 (sLock i b) s Nx Rt Bk Ct Ex = So0 (look s i) fun d => So0 (dctD d) fun _ => Run0 b s (fun s' => So0 (look s' i) fun _ => Nx s') (fun _ _ => False) (fun _ => False) (fun _ => False) fun _ _ => False := by
  unfold Run0 sLock
  cases look s i with
  | none => rfl
  | some d =>
    dsimp only [So0]
    cases dctD d with
    | none => rfl
    | some _ =>
      dsimp only
      cases b s with
      | nx s' => dsimp only; cases look s' i <;> rfl
      | _ => rfl
theorem run_lock {b : MS} : Run (sLock i b) s Nx Rt Bk Ct Ex = So (look s i) fun d => So (dctD d) fun _ => Run b s (fun s' => So (look s' i) fun _ => Nx s') (fun _ _ => False) (fun _ => False) (fun _ => False) fun _ _ => False := by with_unfolding_all exact run_lock_0
theorem ev_maxD_0 : Ev0 (mMaxD i) s Q = So0 (look s i) fun d => So0 (dctD d) fun kvs => So0 (kIntsD kvs) fun ns => So0 (maxL ns) fun m => Q (.int m) s := by
  unfold Ev0 mMaxD
  cases look s i with
  | none => rfl
  | some d =>
    dsimp only [So0]
    cases dctD d with
    | none => rfl
    | some kvs =>
      dsimp only
      cases kIntsD kvs with
      | none => rfl
      | some ns => dsimp only [opt]; cases maxL ns <;> rfl
theorem ev_maxD : Ev (mMaxD i) s Q = So (look s i) fun d => So (dctD d) fun kvs => So (kIntsD kvs) fun ns => So (maxL ns) fun m => Q (.int m) s := by with_unfolding_all exact ev_maxD_0
theorem ev_dlen_0 : Ev0 (mDLen i) s Q = So0 (look s i) fun d => So0 (dctD d) fun kvs => Q (.int kvs.length) s := by
  unfold Ev0 mDLen
  cases look s i with
  | none => rfl
  | some d => dsimp only [So0]; cases dctD d <;> rfl
theorem ev_dlen : Ev (mDLen i) s Q = So (look s i) fun d => So (dctD d) fun kvs => Q (.int kvs.length) s := by with_unfolding_all exact ev_dlen_0
theorem ev_sortD_0 : Ev0 (mSortD i) s Q = So0 (look s i) fun d => So0 (dctD d) fun kvs => So0 (pairsD kvs) fun ps => Q (.list ((sortPr ps).map prD)) s := by
  unfold Ev0 mSortD
  cases look s i with
  | none => rfl
  | some d =>
    dsimp only [So0]
    cases dctD d with
    | none => rfl
    | some kvs =>
      dsimp only
      cases pairsD kvs <;> rfl
theorem ev_sortD : Ev (mSortD i) s Q = So (look s i) fun d => So (dctD d) fun kvs => So (pairsD kvs) fun ps => Q (.list ((sortPr ps).map prD)) s := by with_unfolding_all exact ev_sortD_0
theorem un1 {k : Nat} {A : Around} (h : Room k A) : A.units + 1 < cLine := by have := units65 h; omega
theorem so_dct {l : List (D × D)} {Q : List (D × D) → Prop} : So (dctD (.dict l)) Q = Q l := by with_unfolding_all rfl
theorem ky_i {a : Int} : kyOk 0 (.int a) = true := nr rfl
theorem ky_p {a b : Int} : kyOk 1 (.tuple [.int a, .int b]) = true := nr rfl
theorem ky_n {a b c : Int} : kyOk 1 (.tuple [.int a, .tuple [.int b, .int c]]) = true := nr rfl
theorem prs1 {a : Int} {v : D} : prsOk [(.int a, v)] = true := nr rfl
theorem dput0 {k v : D} : dput k v [] = [(k, v)] := nr rfl
theorem flN0 {α β : Type} {f : β → α → β} {b : β} : List.foldl f b [] = b := nr rfl
theorem flC0 {α β : Type} {f : β → α → β} {b : β} {a : α} {l : List α} : List.foldl f b (a :: l) = List.foldl f (f b a) l := nr rfl
end
end Z
set_option Elab.async false
set_option linter.all false
set_option maxRecDepth 100000
set_option maxHeartbeats 2000000
namespace Z
open PySem L2 PySem.Spec PyProof.Rows
section
variable {X : Cx} {pins : List (Addr × Obj)} {σ : L2.St} {H : Hp} {s : Shared}
variable {a : Addr}
end
open PyProof.Rows in theorem bt_dict : bootBuiltins "dict" = some (.type "dict") := boot_dict
def prsN : List D → Option (List (D × D))
  | [] => some []
  | .tuple [k, v] :: r => if kyOk 1 k then (prsN r).map ((k, v) :: ·) else none
  | _ => none
def foldD (acc kvs : List (D × D)) : List (D × D) := kvs.foldl (fun acc p => dput p.1 p.2 acc) acc
def dictND : List D → Option D
  | [.list es] => (prsN es).map fun kvs => .dict (foldD [] kvs)
  | _ => none
section
variable {K : Fg} {c : Ctx} {O : List Kd} {tl : TA} {bl : M (List BR)}
end
theorem so_dictL_0 {es : List D} {Q : D → Prop} : So0 (dictND [.list es]) Q = So0 (prsN es) fun kvs => Q (.dict (foldD [] kvs)) := by
  show So0 ((prsN es).map fun kvs => .dict (foldD [] kvs)) Q = _
  cases prsN es <;> rfl
theorem so_dictL {es : List D} {Q : D → Prop} : So (dictND [.list es]) Q = So (prsN es) fun kvs => Q (.dict (foldD [] kvs)) := by with_unfolding_all exact so_dictL_0
def intsOf : List D → Option (List Int)
  | [] => some []
  | .int i :: r => (intsOf r).map (i :: ·)
  | _ => none
def sumD : List D → Option D
  | [.list ds] => (intsOf ds).map fun ns => .int ns.sum
  | _ => none
theorem so_sum_0 {es : List D} {Q : D → Prop} : So0 (sumD [.list es]) Q = So0 (intsOf es) fun ns => Q (.int ns.sum) := by
  show So0 ((intsOf es).map fun ns => .int ns.sum) Q = _
  cases intsOf es <;> rfl
theorem so_sum {es : List D} {Q : D → Prop} : So (sumD [.list es]) Q = So (intsOf es) fun ns => Q (.int ns.sum) := by with_unfolding_all exact so_sum_0
end Z
set_option Elab.async false
set_option linter.all false
set_option maxRecDepth 100000
set_option maxHeartbeats 2000000
namespace Z
open PySem L2
section
variable {K : Fg} {F G H : Hp}
def notTup (o : HO) : Prop := (∀ xs, o ≠ .tup xs) ∧ ∀ x xs, o ≠ .frz x (.tup xs)
mutual
theorem dp_minT {fp : List Addr} (hT : ∀ q ∈ fp, ∀ o, F q = some o → notTup o) : ∀ {v : V} {d : D}, Dp K F v d → noL d = true → Dp K (minF F fp) v d
  | _, _, .non, _ => .non
  | _, _, .bl b, _ => .bl b
  | _, _, .int i, _ => .int i
  | _, _, .str x, _ => .str x
  | _, _, .lst h r, n => by cases n
  | _, _, .tup (a := a) h r, n => by
    refine .tup ?_ (dpa_minT hT r (by simpa [noL] using n))
    rcases h with (h | ⟨o, h⟩) | h
    · refine .inl (.inl ?_)
      rw [minF_out fun z => (hT a z _ h).1 _ rfl]
      exact h
    · refine .inl (.inr ⟨o, ?_⟩)
      rw [minF_out fun z => (hT a z _ h).2 _ _ rfl]
      exact h
    · exact .inr h
theorem dpa_minT {fp : List Addr} (hT : ∀ q ∈ fp, ∀ o, F q = some o → notTup o) : ∀ {vs : List V} {ds : List D}, DpAll K F vs ds → noLs ds = true → DpAll K (minF F fp) vs ds
  | _, _, .nil, _ => .nil
  | _, _, .cons h r, n => by
    rw [noLs, Bool.and_eq_true] at n
    exact .cons (dp_minT hT h n.1) (dpa_minT hT r n.2)
end
end
end Z
set_option Elab.async false
set_option linter.all false
set_option maxRecDepth 100000
set_option maxHeartbeats 2000000
namespace Z
open PySem L2
def mLn (ns js : List Nat) (m : M D) : M D := fun s => match m (wipeD s ns) with
  | .ok d s' => if noL d && fzOk js s' then .ok d (mix s s' js) else .no
  | .no => .no
section
variable {K : Fg} {c : Ctx} {O : List Kd} {t : TE} {m : M D}
end
section
variable {s : DS}
theorem ev_ln_0 {ns js : List Nat} {m : M D} {Q : D → DS → Prop} : Ev0 (mLn ns js m) s Q = Ev0 m (wipeD s ns) fun d s' => (noL d && fzOk js s') = true ∧ Q d (mix s s' js) := by
  unfold Ev0 mLn
  cases m (wipeD s ns) with
  | no => rfl
  | ok d s' =>
    simp only
    by_cases hc : (noL d && fzOk js s') = true
    · simp only [hc, if_true, true_and]
    · simp only [hc, if_false, false_and, Bool.false_eq_true]
theorem ev_ln {ns js : List Nat} {m : M D} {Q : D → DS → Prop} : Ev (mLn ns js m) s Q = Ev m (wipeD s ns) fun d s' => (noL d && fzOk js s') = true ∧ Q d (mix s s' js) := by with_unfolding_all exact ev_ln_0
end
end Z
set_option Elab.async false
set_option linter.all false
set_option maxRecDepth 100000
set_option maxHeartbeats 2000000
namespace Z
open PySem L2
def fldO (f : Str) : D → Option D
  | .dict l => fldD f l
  | _ => none
def mFldQ (f : Str) (m : M D) : M D := bnd m fun d => opt (fldO f d)
def mIxQ (m e : M D) : M D := bnd m fun d => bnd e fun z => opt (ixD d z)
section
variable {K : Fg} {c : Ctx} {O : List Kd} {te tb : TE} {m mb : M D} {k : Kd}
inductive ArgQ (K : Fg) (F H : Hp) : List Kd → List V → List D → Prop
  | nil : ArgQ K F H [] [] []
  | cons {k : Kd} {v : V} {d : D} {ps : List Kd} {vs : List V} {ds : List D} : Ow K F H k v d [] → ArgQ K F H ps vs ds → ArgQ K F H (k :: ps) (v :: vs) (d :: ds)
structure DAQ (K : Fg) (c : Ctx) (O : List Kd) (ps : List Kd) (t : TA) (m : M (List D)) : Prop where
  run : ∀ {F H : Hp} {σ : St} {fps : Nat → List Addr} {ds ds' : DS} {es : List D}, Rel K c O F H σ fps ds → m ds = .ok es ds' → ∀ Q : List V → Hp → Prop,
    (∀ F' H' fps' vs, Same F F' → Rel K c O F' H' σ fps' ds' → ArgQ K F' H' ps vs es → Q vs H') → t σ H Q
theorem ArgQ.args {F H : Hp} (s : Same F H) : ∀ {ps : List Kd} {vs : List V} {ds : List D}, ArgQ K F H ps vs ds → ArgR K ps F H vs (fun _ => []) ds := by
  have : ∀ {ps : List Kd} {vs : List V} {ds : List D}, ArgQ K F H ps vs ds → vs.length = ps.length ∧ ds.length = ps.length ∧ ∀ i d, ds[i]? = some d → ∃ v, vs[i]? = some v ∧ Ow K F H (ps.getD i .sh) v d [] := fun h => by
    induction h with
    | nil => exact ⟨rfl, rfl, fun i d h => by simp at h⟩
    | cons o _ ih =>
      obtain ⟨h1, h2, h3⟩ := ih
      refine ⟨by simp [h1], by simp [h2], fun i d h => ?_⟩
      cases i with
      | zero => cases h; exact ⟨_, rfl, o⟩
      | succ i =>
        obtain ⟨v, hv, ow⟩ := h3 i d (by simpa using h)
        exact ⟨v, by simpa using hv, by simpa using ow⟩
  intro ps vs ds h
  obtain ⟨h1, h2, h3⟩ := this h
  exact ⟨h1, h2, s, h3, fun i q hq => (by cases hq), fun i => List.nodup_nil, fun i j _ q hq => by cases hq⟩
variable {ps : List Kd} {rk : Kd} {tl : TA} {ml : M (List D)} {mg : Str → Option Value} {f : FD} {E : XK}
def mMethQ (f : FD) (m : Str) (n : Nat) (mr : M D) (ml : M (List D)) : M D := bnd mr fun e => fun s => match noFd m e with
  | some _ => bnd ml (fun xs => fun s => if xs.length = n then (match f (e :: xs) with | .ok d _ => .ok d s | _ => .no) else .no) s
  | none => .no
end
end Z
set_option Elab.async false
set_option linter.all false
set_option maxRecDepth 100000
set_option maxHeartbeats 2000000
namespace Z
open PySem L2
def putDM (f : Str) (x : D) : List (D × D) → List (D × D)
  | [] => []
  | (.str g, d) :: r => (.str g, if g = f then x else d) :: putDM f x r
  | e :: r => e :: putDM f x r
def sRputD (i : Nat) (f : Str) (m : M D) : MS := fun s => match m s with
  | .ok x s1 => match look s1 i with
    | some d => match dof d with
      | some l => if (fldD f l).isSome && decide (l.length ≤ 1000) then .nx (s1.set i (some (.dict (putDM f x l)))) else .no
      | none => .no
    | none => .no
  | .no => .no
def plFd (mp : D → M (List Sel)) (f : Str) : D → M (List Sel) := fun d => bnd (mp d) fun π => opt (match getP π d with
  | some x => (fldO f x).map fun _ => π ++ [.fd f]
  | none => none)
section
variable {K : Fg} {c : Ctx} {O Ob : List Kd} {te tp : TE} {m : M D} {k k1 : Kd} {i : Nat}
theorem FlO.some {R : Str → OwR} {f : Str} : ∀ {vs : List (Str × V)} {ds : List (D × D)} {fs : List (List Addr)}, FlO R vs ds fs → (fldD f ds).isSome = true → (vs.lookup f).isSome = true
  | _, _, _, .nil, e => by cases e
  | _, _, _, .cons (f := g) (v := v) h r, e => by
    unfold fldD at e
    rw [List.lookup_cons]
    by_cases z : f = g
    · subst z; rw [beq_self_eq_true]; rfl
    · rw [if_neg z] at e
      have : (f == g) = false := by simpa using z
      rw [this]
      exact r.some e
end
end Z
set_option Elab.async false
set_option linter.all false
set_option maxRecDepth 100000
set_option maxHeartbeats 2000000
namespace Z
open PySem L2
inductive RcOk (K : Fg) (O : List Kd) (k : Kd) : List (TE × TE) → List (Str × M D) → Prop
  | nil : RcOk K O k [] []
  | cons {f : Str} {tv : TE} {mv : M D} {ts : List (TE × TE)} {ms : List (Str × M D)} : (∀ c, DO K c O (fkOf k f) tv mv) → RcOk K O k ts ms → RcOk K O k ((tC (.str f), tv) :: ts) ((f, mv) :: ms)
def mRecs : List (Str × M D) → M (List (D × D))
  | [] => fun s => .ok [] s
  | (f, mv) :: r => bnd mv fun v => bnd (mRecs r) fun l => fun s => .ok ((.str f, v) :: l) s
def recN : Str := "{}"
def mRecd (ms : List (Str × M D)) : M D := bnd (mRecs ms) fun l => fun s => .ok (.dict ((.none, .str recN) :: l)) s
section
variable {K : Fg} {c : Ctx} {O : List Kd} {k : Kd}
end
section
variable {s : DS} {Nx Bk Ct : DS → Prop} {Ex : Xc → DS → Prop} {Rt : D → DS → Prop}
theorem ev_fldQ_0 {f : Str} {m : M D} {Q : D → DS → Prop} : Ev0 (mFldQ f m) s Q = Ev0 m s fun d s' => So0 (fldO f d) fun x => Q x s' := by
  unfold mFldQ; rw [ev_bnd_0]; refine ev_ext_0 fun d s' => ?_
  rw [ev_opt_0]
theorem ev_fldQ {f : Str} {m : M D} {Q : D → DS → Prop} : Ev (mFldQ f m) s Q = Ev m s fun d s' => So (fldO f d) fun x => Q x s' := by with_unfolding_all exact ev_fldQ_0
theorem ev_ixQ_0 {m e : M D} {Q : D → DS → Prop} : Ev0 (mIxQ m e) s Q = Ev0 m s fun d s1 => Ev0 e s1 fun z s2 => So0 (ixD d z) fun x => Q x s2 := by
  unfold mIxQ; rw [ev_bnd_0]; refine ev_ext_0 fun d s1 => ?_
  rw [ev_bnd_0]; refine ev_ext_0 fun z s2 => ?_
  rw [ev_opt_0]
theorem ev_ixQ {m e : M D} {Q : D → DS → Prop} : Ev (mIxQ m e) s Q = Ev m s fun d s1 => Ev e s1 fun z s2 => So (ixD d z) fun x => Q x s2 := by with_unfolding_all exact ev_ixQ_0
theorem run_rput_0 {i : Nat} {f : Str} {m : M D} : Run0 (sRputD i f m) s Nx Rt Bk Ct Ex = Ev0 m s fun x s1 => So0 (look s1 i) fun d => So0 (dof d) fun l => ((fldD f l).isSome && decide (l.length ≤ 1000)) = true ∧ Nx (s1.set i (some (.dict (putDM f x l)))) := by
  unfold Run0 sRputD Ev0
  cases m s with
  | no => rfl
  | ok x s1 =>
    dsimp only
    cases look s1 i with
    | none => rfl
    | some d =>
      dsimp only [So0]
      cases dof d with
      | none => rfl
      | some l =>
        dsimp only
        cases z : ((fldD f l).isSome && decide (l.length ≤ 1000)) <;> simp
theorem run_rput {i : Nat} {f : Str} {m : M D} : Run (sRputD i f m) s Nx Rt Bk Ct Ex = Ev m s fun x s1 => So (look s1 i) fun d => So (dof d) fun l => ((fldD f l).isSome && decide (l.length ≤ 1000)) = true ∧ Nx (s1.set i (some (.dict (putDM f x l)))) := by with_unfolding_all exact run_rput_0
theorem ev_plFd_0 {d : D} {f : Str} {mp : D → M (List Sel)} {Q : List Sel → DS → Prop} : Ev0 (plFd mp f d) s Q = Ev0 (mp d) s fun π s1 => So0 (getP π d) fun x => So0 (fldO f x) fun _ => Q (π ++ [.fd f]) s1 := by
  unfold plFd; rw [ev_bnd_0]; refine ev_ext_0 fun π s1 => ?_
  rw [ev_opt_0]
  cases getP π d with
  | none => rfl
  | some x =>
    dsimp only [So0]
    cases fldO f x <;> rfl
theorem ev_plFd {d : D} {f : Str} {mp : D → M (List Sel)} {Q : List Sel → DS → Prop} : Ev (plFd mp f d) s Q = Ev (mp d) s fun π s1 => So (getP π d) fun x => So (fldO f x) fun _ => Q (π ++ [.fd f]) s1 := by with_unfolding_all exact ev_plFd_0
theorem ev_recs0_0 {Q : List (D × D) → DS → Prop} : Ev0 (mRecs []) s Q = Q [] s := rfl
theorem ev_recs0 {Q : List (D × D) → DS → Prop} : Ev (mRecs []) s Q = Q [] s := by with_unfolding_all exact ev_recs0_0
theorem ev_recsC_0 {f : Str} {m : M D} {r : List (Str × M D)} {Q : List (D × D) → DS → Prop} : Ev0 (mRecs ((f, m) :: r)) s Q = Ev0 m s fun v s1 => Ev0 (mRecs r) s1 fun l s2 => Q ((.str f, v) :: l) s2 := by
  show Ev0 (bnd m fun v => bnd (mRecs r) fun l => fun s => .ok ((.str f, v) :: l) s) s Q = _
  rw [ev_bnd_0]; refine ev_ext_0 fun v s1 => ?_
  rw [ev_bnd_0]; rfl
theorem ev_recsC {f : Str} {m : M D} {r : List (Str × M D)} {Q : List (D × D) → DS → Prop} : Ev (mRecs ((f, m) :: r)) s Q = Ev m s fun v s1 => Ev (mRecs r) s1 fun l s2 => Q ((.str f, v) :: l) s2 := by with_unfolding_all exact ev_recsC_0
theorem ev_recd_0 {ms : List (Str × M D)} {Q : D → DS → Prop} : Ev0 (mRecd ms) s Q = Ev0 (mRecs ms) s fun l s' => Q (.dict ((.none, .str recN) :: l)) s' := by
  unfold mRecd; rw [ev_bnd_0]; rfl
theorem ev_recd {ms : List (Str × M D)} {Q : D → DS → Prop} : Ev (mRecd ms) s Q = Ev (mRecs ms) s fun l s' => Q (.dict ((.none, .str recN) :: l)) s' := by with_unfolding_all exact ev_recd_0
theorem so_fldO {f : Str} {l : List (D × D)} {Q : D → Prop} : So (fldO f (.dict l)) Q = So (fldD f l) Q := by with_unfolding_all rfl
end
end Z
set_option Elab.async false
set_option linter.all false
set_option maxRecDepth 100000
set_option maxHeartbeats 2000000
namespace Z
open PySem L2
section
variable {K : Fg} {c : Ctx} {O : List Kd} {F H F' H' : Hp} {σ : St} {fps fps' : Nat → List Addr} {ds ds' : DS} {k1 : Kd} {v : V} {d1 : D} {fp3 : List Addr}
end
def cpEnd (f : FD) (i : Nat) (π : List Sel) (d0 : D) (s2 : DS) (d1 : D) (xs : List D) : R D := match f (d1 :: xs) with
  | .ok d (d1' :: _) => match setP π d0 d1' with
    | some d0' => .ok d (s2.set i (some d0'))
    | none => .no
  | _ => .no
def mCallP0 (f : FD) (m n i : Nat) (mp : D → M (List Sel)) (ml : M (List D)) : M D := fun s => if s.length = n then (match look s i with
  | some d0 => match mp d0 (s.set i none) with
    | .ok π s1 => match ml s1 with
      | .ok xs s2 => if xs.length = m then (match getP π d0 with
        | some d1 => cpEnd f i π d0 s2 d1 xs
        | none => .no) else .no
      | .no => .no
    | .no => .no
  | none => .no) else .no
section
variable {K : Fg} {c : Ctx} {O ps : List Kd} {rk k1 : Kd} {tp : TE} {tl : TA} {ml : M (List D)} {mg : Str → Option Value} {f : FD} {E : XK} {n : Nat}
end
end Z
set_option Elab.async false
set_option linter.all false
set_option maxRecDepth 100000
set_option maxHeartbeats 2000000
namespace Z
open PySem L2
def mMethP (f : FD) (nm : Str) (m n i : Nat) (mp : D → M (List Sel)) (ml : M (List D)) : M D := fun s => if s.length = n then (match look s i with
  | some d0 => match mp d0 (s.set i none) with
    | .ok π s1 => match getP π d0 with
      | some d1 => match noFd nm d1 with
        | some _ => match ml s1 with
          | .ok xs s2 => if xs.length = m then cpEnd f i π d0 s2 d1 xs else .no
          | .no => .no
        | none => .no
      | none => .no
    | .no => .no
  | none => .no) else .no
def cpEnd1 (f : FD) (j i : Nat) (π : List Sel) (d0 : D) (s1 : DS) (dj d1 : D) : R D := match f [dj, d1] with
  | .ok d [dj', d1'] => match setP π d0 d1' with
    | some d0' => .ok d ((s1.set j (some dj')).set i (some d0'))
    | none => .no
  | _ => .no
def mCallP1 (f : FD) (n j i : Nat) (mp : D → M (List Sel)) : M D := fun s => if s.length = n then (match look s j with
  | some _ => match look s i with
    | some d0 => match mp d0 (s.set i none) with
      | .ok π s1 => match look s1 j with
        | some dj => match getP π d0 with
          | some d1 => cpEnd1 f j i π d0 s1 dj d1
          | none => .no
        | none => .no
      | .no => .no
    | none => .no
  | none => .no) else .no
section
variable {K : Fg} {c : Ctx} {O ps : List Kd} {rk k1 : Kd} {tp : TE} {tl : TA} {ml : M (List D)} {mg : Str → Option Value} {f : FD} {E : XK} {n : Nat}
end
end Z
set_option Elab.async false
set_option linter.all false
set_option maxRecDepth 100000
set_option maxHeartbeats 2000000
namespace Z
open PySem L2
def twoO : List D → Option (D × D)
  | [a, b] => some (a, b)
  | _ => none
section
variable {s : DS} {f : FD} {nm : Str} {m n i j : Nat} {mp : D → M (List Sel)} {ml : M (List D)} {mr : M D} {Q : D → DS → Prop}
theorem ev_methQ_0 : Ev0 (mMethQ f nm n mr ml) s Q = Ev0 mr s fun e s1 => So0 (noFd nm e) fun _ => Ev0 ml s1 fun xs s2 => xs.length = n ∧ Cl0 f (e :: xs) fun d _ => Q d s2 := by
  unfold mMethQ; rw [ev_bnd_0]; refine ev_ext_0 fun e s1 => ?_
  unfold Ev0
  cases noFd nm e with
  | none => rfl
  | some u =>
    dsimp only [So0, bnd]
    cases ml s1 with
    | no => rfl
    | ok xs s2 =>
      dsimp only
      by_cases h : xs.length = n
      · rw [if_pos h]
        refine propext ⟨fun z => ?_, fun z => ?_⟩
        · cases e2 : f (e :: xs) with
          | no => rw [e2] at z; exact z.elim
          | ex x as => rw [e2] at z; exact z.elim
          | ok d as => rw [e2] at z; exact ⟨h, d, as, e2, z⟩
        · obtain ⟨_, d, as, e2, z⟩ := z
          rw [e2]; exact z
      · rw [if_neg h]; simp [h]
theorem ev_methQ : Ev (mMethQ f nm n mr ml) s Q = Ev mr s fun e s1 => So (noFd nm e) fun _ => Ev ml s1 fun xs s2 => xs.length = n ∧ Cl f (e :: xs) fun d _ => Q d s2 := by with_unfolding_all exact ev_methQ_0
theorem callP_0 {d0 : D} {π : List Sel} {s2 : DS} {xs : List D} {d1 : D} : (match cpEnd f i π d0 s2 d1 xs with | .ok d s' => Q d s' | .no => False) = Cl0 f (d1 :: xs) fun d as => So0 (hdO as) fun d1' => So0 (setP π d0 d1') fun d0' => Q d (s2.set i (some d0')) := by
  unfold cpEnd
  refine propext ⟨fun z => ?_, fun z => ?_⟩
  · cases e : f (d1 :: xs) with
    | no => rw [e] at z; exact z.elim
    | ex x as => rw [e] at z; exact z.elim
    | ok d as =>
      rw [e] at z
      cases as with
      | nil => exact z.elim
      | cons d1' as =>
        refine ⟨d, _, e, ?_⟩
        show So0 (setP π d0 d1') _
        dsimp only at z
        cases y : setP π d0 d1' with
        | none => rw [y] at z; exact z.elim
        | some d0' => rw [y] at z; exact z
  · obtain ⟨d, as, e, z⟩ := z
    rw [e]
    cases as with
    | nil => exact z.elim
    | cons d1' as =>
      have z : So0 (setP π d0 d1') fun d0' => Q d (s2.set i (some d0')) := z
      dsimp only
      cases y : setP π d0 d1' with
      | none => rw [y] at z; exact z.elim
      | some d0' => rw [y] at z; exact z
theorem callP1_0 {d0 dj : D} {π : List Sel} {s1 : DS} {d1 : D} : (match cpEnd1 f j i π d0 s1 dj d1 with | .ok d s' => Q d s' | .no => False) = Cl0 f [dj, d1] fun d as => So0 (twoO as) fun p => So0 (setP π d0 p.2) fun d0' => Q d ((s1.set j (some p.1)).set i (some d0')) := by
  unfold cpEnd1
  refine propext ⟨fun z => ?_, fun z => ?_⟩
  · cases e : f [dj, d1] with
    | no => rw [e] at z; exact z.elim
    | ex x as => rw [e] at z; exact z.elim
    | ok d as =>
      rw [e] at z
      match as with
      | [] => exact z.elim
      | [a] => exact z.elim
      | a :: b :: c :: l => exact z.elim
      | [a, b] =>
        refine ⟨d, _, e, ?_⟩
        show So0 (setP π d0 b) _
        dsimp only at z
        cases y : setP π d0 b with
        | none => rw [y] at z; exact z.elim
        | some d0' => rw [y] at z; exact z
  · obtain ⟨d, as, e, z⟩ := z
    rw [e]
    match as with
    | [] => exact z.elim
    | [a] => exact z.elim
    | a :: b :: c :: l => exact z.elim
    | [a, b] =>
      have z : So0 (setP π d0 b) fun d0' => Q d ((s1.set j (some a)).set i (some d0')) := z
      dsimp only
      cases y : setP π d0 b with
      | none => rw [y] at z; exact z.elim
      | some d0' => rw [y] at z; exact z
theorem ev_callP0_0 : Ev0 (mCallP0 f m n i mp ml) s Q = (s.length = n ∧ So0 (look s i) fun d0 => Ev0 (mp d0) (s.set i none) fun π s1 => Ev0 ml s1 fun xs s2 => xs.length = m ∧ So0 (getP π d0) fun d1 => Cl0 f (d1 :: xs) fun d as => So0 (hdO as) fun d1' => So0 (setP π d0 d1') fun d0' => Q d (s2.set i (some d0'))) := by
  unfold Ev0 mCallP0
  by_cases h : s.length = n
  · rw [if_pos h]
    simp only [h, true_and]
    cases look s i with
    | none => rfl
    | some d0 =>
      simp only [so_some_0]
      cases mp d0 (s.set i none) with
      | no => rfl
      | ok π s1 =>
        dsimp only
        cases ml s1 with
        | no => rfl
        | ok xs s2 =>
          dsimp only
          by_cases h2 : xs.length = m
          · rw [if_pos h2]
            simp only [h2, true_and]
            cases getP π d0 with
            | none => rfl
            | some d1 => simp only [so_some_0]; (have h := callP_0 (Q := Q) (d0 := d0) (π := π) (s2 := s2) (xs := xs) (d1 := d1) (f := f) (i := i); cases e : cpEnd f i π d0 s2 d1 xs <;> rw [e] at h <;> exact h)
          · rw [if_neg h2]; simp [h2]
  · rw [if_neg h]; simp [h]
theorem ev_callP0 : Ev (mCallP0 f m n i mp ml) s Q = (s.length = n ∧ So (look s i) fun d0 => Ev (mp d0) (s.set i none) fun π s1 => Ev ml s1 fun xs s2 => xs.length = m ∧ So (getP π d0) fun d1 => Cl f (d1 :: xs) fun d as => So (hdO as) fun d1' => So (setP π d0 d1') fun d0' => Q d (s2.set i (some d0'))) := by with_unfolding_all exact ev_callP0_0
theorem ev_methP_0 : Ev0 (mMethP f nm m n i mp ml) s Q = (s.length = n ∧ So0 (look s i) fun d0 => Ev0 (mp d0) (s.set i none) fun π s1 => So0 (getP π d0) fun d1 => So0 (noFd nm d1) fun _ => Ev0 ml s1 fun xs s2 => xs.length = m ∧ Cl0 f (d1 :: xs) fun d as => So0 (hdO as) fun d1' => So0 (setP π d0 d1') fun d0' => Q d (s2.set i (some d0'))) := by
  unfold Ev0 mMethP
  by_cases h : s.length = n
  · rw [if_pos h]
    simp only [h, true_and]
    cases look s i with
    | none => rfl
    | some d0 =>
      simp only [so_some_0]
      cases mp d0 (s.set i none) with
      | no => rfl
      | ok π s1 =>
        dsimp only
        cases getP π d0 with
        | none => rfl
        | some d1 =>
          simp only [so_some_0]
          cases noFd nm d1 with
          | none => rfl
          | some u =>
            simp only [so_some_0]
            cases ml s1 with
            | no => rfl
            | ok xs s2 =>
              dsimp only
              by_cases h2 : xs.length = m
              · rw [if_pos h2]
                simp only [h2, true_and]
                (have h := callP_0 (Q := Q) (d0 := d0) (π := π) (s2 := s2) (xs := xs) (d1 := d1) (f := f) (i := i); cases e : cpEnd f i π d0 s2 d1 xs <;> rw [e] at h <;> exact h)
              · rw [if_neg h2]; simp [h2]
  · rw [if_neg h]; simp [h]
theorem ev_methP : Ev (mMethP f nm m n i mp ml) s Q = (s.length = n ∧ So (look s i) fun d0 => Ev (mp d0) (s.set i none) fun π s1 => So (getP π d0) fun d1 => So (noFd nm d1) fun _ => Ev ml s1 fun xs s2 => xs.length = m ∧ Cl f (d1 :: xs) fun d as => So (hdO as) fun d1' => So (setP π d0 d1') fun d0' => Q d (s2.set i (some d0'))) := by with_unfolding_all exact ev_methP_0
theorem ev_callP1_0 : Ev0 (mCallP1 f n j i mp) s Q = (s.length = n ∧ So0 (look s j) fun _ => So0 (look s i) fun d0 => Ev0 (mp d0) (s.set i none) fun π s1 => So0 (look s1 j) fun dj => So0 (getP π d0) fun d1 => Cl0 f [dj, d1] fun d as => So0 (twoO as) fun p => So0 (setP π d0 p.2) fun d0' => Q d ((s1.set j (some p.1)).set i (some d0'))) := by
  unfold Ev0 mCallP1
  by_cases h : s.length = n
  · rw [if_pos h]
    simp only [h, true_and]
    cases look s j with
    | none => rfl
    | some d9 =>
      simp only [so_some_0]
      cases look s i with
      | none => rfl
      | some d0 =>
        simp only [so_some_0]
        cases mp d0 (s.set i none) with
        | no => rfl
        | ok π s1 =>
          dsimp only
          cases look s1 j with
          | none => rfl
          | some dj =>
            simp only [so_some_0]
            cases getP π d0 with
            | none => rfl
            | some d1 =>
              simp only [so_some_0]
              (have h := callP1_0 (Q := Q) (d0 := d0) (π := π) (s1 := s1) (dj := dj) (d1 := d1) (f := f) (i := i) (j := j); cases e : cpEnd1 f j i π d0 s1 dj d1 <;> rw [e] at h <;> exact h)
  · rw [if_neg h]; simp [h]
theorem ev_callP1 : Ev (mCallP1 f n j i mp) s Q = (s.length = n ∧ So (look s j) fun _ => So (look s i) fun d0 => Ev (mp d0) (s.set i none) fun π s1 => So (look s1 j) fun dj => So (getP π d0) fun d1 => Cl f [dj, d1] fun d as => So (twoO as) fun p => So (setP π d0 p.2) fun d0' => Q d ((s1.set j (some p.1)).set i (some d0'))) := by with_unfolding_all exact ev_callP1_0
end
theorem so_twoO {a b : D} {Q : D × D → Prop} : So (twoO [a, b]) Q = Q (a, b) := by with_unfolding_all exact rfl
theorem so_getF {f : Str} {π : List Sel} {l : List (D × D)} {Q : D → Prop} : So (getP (.fd f :: π) (.dict l)) Q = So (fldD f l) fun x => So (getP π x) Q := by
  have h : So0 (getP (.fd f :: π) (.dict l)) Q = So0 (fldD f l) fun x => So0 (getP π x) Q := by
    show So0 (match fldD f l with | some d' => getP π d' | none => none) Q = _
    cases fldD f l <;> rfl
  with_unfolding_all exact h
theorem so_setF {f : Str} {π : List Sel} {l : List (D × D)} {x : D} {Q : D → Prop} : So (setP (.fd f :: π) (.dict l) x) Q = So (fldD f l) fun d => So (setP π d x) fun y => Q (.dict (putD f y l)) := by
  have h : So0 (setP (.fd f :: π) (.dict l) x) Q = So0 (fldD f l) fun d => So0 (setP π d x) fun y => Q (.dict (putD f y l)) := by
    show So0 (match fldD f l with | some d' => (match setP π d' x with | some y => some (.dict (putD f y l)) | none => none) | none => none) Q = _
    cases fldD f l with
    | none => rfl
    | some d =>
      dsimp only [So0]
      cases setP π d x <;> rfl
  with_unfolding_all exact h
theorem so_ixPP {π : List Sel} {d : D} {j : Int} {Q : List Sel → Prop} : So (ixP π d (.int j)) Q = So (getP π d) fun x => So (lof x) fun xs => So (ixN xs.length j) fun n => Q (π ++ [.ix n]) := by
  have h : So0 (ixP π d (.int j)) Q = So0 (getP π d) fun x => So0 (lof x) fun xs => So0 (ixN xs.length j) fun n => Q (π ++ [.ix n]) := by
    unfold ixP
    cases getP π d with
    | none => rfl
    | some x =>
      cases x with
      | list xs =>
        show So0 ((ixN xs.length j).map fun n => π ++ [.ix n]) Q = So0 (ixN xs.length j) _
        cases ixN xs.length j <;> rfl
      | _ => rfl
  with_unfolding_all exact h
theorem app_ps {a : Sel} {l m : List Sel} : (a :: l) ++ m = a :: (l ++ m) := nr rfl
theorem app_pn {m : List Sel} : ([] : List Sel) ++ m = m := nr rfl
theorem pdN {f : Str} {x : D} : putD f x [] = [] := nr rfl
theorem pdC {f : Str} {x y : D} {l : List (D × D)} : putD f y ((.none, x) :: l) = (.none, x) :: putD f y l := nr rfl
theorem pdE {f : Str} {x y : D} {l : List (D × D)} : putD f y ((.str f, x) :: l) = (.str f, y) :: l := if_pos rfl
theorem pdO {f g : Str} {x y : D} {l : List (D × D)} (h : (f = g) = False) : putD f y ((.str g, x) :: l) = (.str g, x) :: putD f y l := if_neg (by rw [h]; exact id)
theorem pmN {f : Str} {x : D} : putDM f x [] = [] := nr rfl
theorem pmC {f : Str} {x y : D} {l : List (D × D)} : putDM f y ((.none, x) :: l) = (.none, x) :: putDM f y l := nr rfl
theorem pmE {f : Str} {x y : D} {l : List (D × D)} : putDM f y ((.str f, x) :: l) = (.str f, y) :: putDM f y l := by
  show (PyData.str f, if f = f then y else x) :: putDM f y l = _
  rw [if_pos rfl]
theorem pmO {f g : Str} {x y : D} {l : List (D × D)} (h : (g = f) = False) : putDM f y ((.str g, x) :: l) = (.str g, x) :: putDM f y l := by
  show (PyData.str g, if g = f then y else x) :: putDM f y l = _
  rw [if_neg (by rw [h]; exact id)]
theorem isS {α : Type} {a : α} : (Option.some a).isSome = true := rfl
theorem nr_kind_summer : (Str.ofString "kind" = Str.ofString "summer") = False := by rw [strE]; exact eq_false (by decide)
theorem nr_summer_kind : (Str.ofString "summer" = Str.ofString "kind") = False := by rw [strE]; exact eq_false (by decide)
theorem nr_summer_rows : (Str.ofString "summer" = Str.ofString "rows") = False := by rw [strE]; exact eq_false (by decide)
theorem nr_summer_figures : (Str.ofString "summer" = Str.ofString "figures") = False := by rw [strE]; exact eq_false (by decide)
theorem nr_summer_ended : (Str.ofString "summer" = Str.ofString "ended") = False := by rw [strE]; exact eq_false (by decide)
theorem nr_rows_summer : (Str.ofString "rows" = Str.ofString "summer") = False := by rw [strE]; exact eq_false (by decide)
theorem nr_rows_figures : (Str.ofString "rows" = Str.ofString "figures") = False := by rw [strE]; exact eq_false (by decide)
theorem nr_rows_ended : (Str.ofString "rows" = Str.ofString "ended") = False := by rw [strE]; exact eq_false (by decide)
theorem nr_figures_summer : (Str.ofString "figures" = Str.ofString "summer") = False := by rw [strE]; exact eq_false (by decide)
theorem nr_figures_rows : (Str.ofString "figures" = Str.ofString "rows") = False := by rw [strE]; exact eq_false (by decide)
theorem nr_ended_summer : (Str.ofString "ended" = Str.ofString "summer") = False := by rw [strE]; exact eq_false (by decide)
theorem nr_ended_rows : (Str.ofString "ended" = Str.ofString "rows") = False := by rw [strE]; exact eq_false (by decide)
theorem nr_table_works : (Str.ofString "table" = Str.ofString "works") = False := by rw [strE]; exact eq_false (by decide)
theorem nr_table_seen : (Str.ofString "table" = Str.ofString "seen") = False := by rw [strE]; exact eq_false (by decide)
theorem nr_table_deeds : (Str.ofString "table" = Str.ofString "deeds") = False := by rw [strE]; exact eq_false (by decide)
theorem nr_works_table : (Str.ofString "works" = Str.ofString "table") = False := by rw [strE]; exact eq_false (by decide)
theorem nr_seen_table : (Str.ofString "seen" = Str.ofString "table") = False := by rw [strE]; exact eq_false (by decide)
theorem nr_deeds_table : (Str.ofString "deeds" = Str.ofString "table") = False := by rw [strE]; exact eq_false (by decide)
theorem nr_word_numbers : (Str.ofString "word" = Str.ofString "numbers") = False := by rw [strE]; exact eq_false (by decide)
theorem nr_word_left : (Str.ofString "word" = Str.ofString "left") = False := by rw [strE]; exact eq_false (by decide)
theorem nr_word_row : (Str.ofString "word" = Str.ofString "row") = False := by rw [strE]; exact eq_false (by decide)
theorem nr_word_wide : (Str.ofString "word" = Str.ofString "wide") = False := by rw [strE]; exact eq_false (by decide)
theorem nr_word_great : (Str.ofString "word" = Str.ofString "great") = False := by rw [strE]; exact eq_false (by decide)
theorem nr_word_stand : (Str.ofString "word" = Str.ofString "stand") = False := by rw [strE]; exact eq_false (by decide)
theorem nr_numbers_word : (Str.ofString "numbers" = Str.ofString "word") = False := by rw [strE]; exact eq_false (by decide)
theorem nr_numbers_row : (Str.ofString "numbers" = Str.ofString "row") = False := by rw [strE]; exact eq_false (by decide)
theorem nr_left_word : (Str.ofString "left" = Str.ofString "word") = False := by rw [strE]; exact eq_false (by decide)
theorem nr_left_row : (Str.ofString "left" = Str.ofString "row") = False := by rw [strE]; exact eq_false (by decide)
theorem nr_row_word : (Str.ofString "row" = Str.ofString "word") = False := by rw [strE]; exact eq_false (by decide)
theorem nr_row_numbers : (Str.ofString "row" = Str.ofString "numbers") = False := by rw [strE]; exact eq_false (by decide)
theorem nr_row_left : (Str.ofString "row" = Str.ofString "left") = False := by rw [strE]; exact eq_false (by decide)
theorem nr_row_wide : (Str.ofString "row" = Str.ofString "wide") = False := by rw [strE]; exact eq_false (by decide)
theorem nr_row_great : (Str.ofString "row" = Str.ofString "great") = False := by rw [strE]; exact eq_false (by decide)
theorem nr_row_stand : (Str.ofString "row" = Str.ofString "stand") = False := by rw [strE]; exact eq_false (by decide)
theorem nr_wide_word : (Str.ofString "wide" = Str.ofString "word") = False := by rw [strE]; exact eq_false (by decide)
theorem nr_wide_row : (Str.ofString "wide" = Str.ofString "row") = False := by rw [strE]; exact eq_false (by decide)
theorem nr_great_word : (Str.ofString "great" = Str.ofString "word") = False := by rw [strE]; exact eq_false (by decide)
theorem nr_great_row : (Str.ofString "great" = Str.ofString "row") = False := by rw [strE]; exact eq_false (by decide)
theorem nr_stand_word : (Str.ofString "stand" = Str.ofString "word") = False := by rw [strE]; exact eq_false (by decide)
theorem nr_stand_row : (Str.ofString "stand" = Str.ofString "row") = False := by rw [strE]; exact eq_false (by decide)
theorem nr_desk_kind : (Str.ofString "desk" = Str.ofString "kind") = False := by rw [strE]; exact eq_false (by decide)
theorem nr_desk_looks : (Str.ofString "desk" = Str.ofString "looks") = False := by rw [strE]; exact eq_false (by decide)
theorem nr_desk_sight : (Str.ofString "desk" = Str.ofString "sight") = False := by rw [strE]; exact eq_false (by decide)
theorem nr_desk_table : (Str.ofString "desk" = Str.ofString "table") = False := by rw [strE]; exact eq_false (by decide)
theorem nr_kind_desk : (Str.ofString "kind" = Str.ofString "desk") = False := by rw [strE]; exact eq_false (by decide)
theorem nr_looks_desk : (Str.ofString "looks" = Str.ofString "desk") = False := by rw [strE]; exact eq_false (by decide)
theorem nr_sight_desk : (Str.ofString "sight" = Str.ofString "desk") = False := by rw [strE]; exact eq_false (by decide)
theorem nr_table_desk : (Str.ofString "table" = Str.ofString "desk") = False := by rw [strE]; exact eq_false (by decide)
end Z
set_option Elab.async false
set_option linter.all false
set_option maxRecDepth 100000
set_option maxHeartbeats 2000000
namespace Z
open PySem L2
inductive SqO (R : Kd → OwR) : List Kd → List V → List D → List (List Addr) → Prop
  | nil : SqO R [] [] [] []
  | cons {k v d f ks vs ds fs} : R k v d f → SqO R ks vs ds fs → SqO R (k :: ks) (v :: vs) (d :: ds) (f :: fs)
theorem SqO.len {P : Kd → OwR} : ∀ {ks vs ds gs}, SqO P ks vs ds gs → vs.length = ds.length ∧ ds.length = ks.length
  | _, _, _, _, .nil => ⟨rfl, rfl⟩
  | _, _, _, _, .cons _ t => by have := t.len; simp [this.1, this.2]
theorem SqO.t {K : Fg} {F H : Hp} : ∀ {ks vs ds gs}, SqO (Ow K F H) ks vs ds gs → (Ow2 K F H (tcs ks)).t vs ds gs
  | _, _, _, _, .nil => ⟨rfl, rfl, rfl⟩
  | _, _, _, _, .cons h t => ⟨_, _, _, _, _, _, rfl, rfl, rfl, h, t.t⟩
theorem SqO.all {K : Fg} {F H : Hp} {k : Kd} : ∀ {ks vs ds gs}, SqO (Ow K F H) ks vs ds gs → (∀ x ∈ ks, x = k) → All3 (Ow K F H k) vs ds gs
  | _, _, _, _, .nil, _ => .nil
  | _, _, _, _, .cons h t, e => by
    have e1 := e _ List.mem_cons_self
    subst e1
    exact .cons h (t.all fun x hx => e x (List.mem_cons_of_mem _ hx))
inductive AsO (K : Fg) (O : List Kd) : List Kd → TA → List (M D) → Prop
  | nil : AsO K O [] tNil []
  | cons {k : Kd} {te : TE} {me : M D} {ks : List Kd} {tl : TA} {ms : List (M D)} : (∀ c, DO K c O k te me) → AsO K O ks tl ms → AsO K O (k :: ks) (tCons te tl) (me :: ms)
def mSeq : List (M D) → M (List D)
  | [] => fun s => .ok [] s
  | m :: r => bnd m fun v => bnd (mSeq r) fun l => fun s => .ok (v :: l) s
def mTupO (ms : List (M D)) : M D := bnd (mSeq ms) fun l => fun s => if fits l.length then .ok (.tuple l) s else .no
def mLstO (ms : List (M D)) : M D := bnd (mSeq ms) fun l => fun s => if fits l.length then .ok (.list l) s else .no
section
variable {K : Fg} {c : Ctx} {O : List Kd} {k : Kd}
end
section
variable {s : DS}
theorem ev_seq0_0 {Q : List D → DS → Prop} : Ev0 (mSeq []) s Q = Q [] s := nr rfl
theorem ev_seq0 {Q : List D → DS → Prop} : Ev (mSeq []) s Q = Q [] s := by with_unfolding_all exact ev_seq0_0
theorem ev_seqC_0 {m : M D} {r : List (M D)} {Q : List D → DS → Prop} : Ev0 (mSeq (m :: r)) s Q = Ev0 m s fun v s1 => Ev0 (mSeq r) s1 fun l s2 => Q (v :: l) s2 := by
  show Ev0 (bnd m fun v => bnd (mSeq r) fun l => fun s => .ok (v :: l) s) s Q = _
  rw [ev_bnd_0]; refine ev_ext_0 fun v s1 => ?_
  rw [ev_bnd_0]; rfl
theorem ev_seqC {m : M D} {r : List (M D)} {Q : List D → DS → Prop} : Ev (mSeq (m :: r)) s Q = Ev m s fun v s1 => Ev (mSeq r) s1 fun l s2 => Q (v :: l) s2 := by with_unfolding_all exact ev_seqC_0
theorem ev_tupO_0 {ms : List (M D)} {Q : D → DS → Prop} : Ev0 (mTupO ms) s Q = Ev0 (mSeq ms) s fun l s' => fits l.length = true ∧ Q (.tuple l) s' := by
  unfold mTupO; rw [ev_bnd_0]; refine ev_ext_0 fun l s1 => ?_
  unfold Ev0
  dsimp only
  cases z : fits l.length <;> simp
theorem ev_tupO {ms : List (M D)} {Q : D → DS → Prop} : Ev (mTupO ms) s Q = Ev (mSeq ms) s fun l s' => fits l.length = true ∧ Q (.tuple l) s' := by with_unfolding_all exact ev_tupO_0
theorem ev_lstO_0 {ms : List (M D)} {Q : D → DS → Prop} : Ev0 (mLstO ms) s Q = Ev0 (mSeq ms) s fun l s' => fits l.length = true ∧ Q (.list l) s' := by
  unfold mLstO; rw [ev_bnd_0]; refine ev_ext_0 fun l s1 => ?_
  unfold Ev0
  dsimp only
  cases z : fits l.length <;> simp
theorem ev_lstO {ms : List (M D)} {Q : D → DS → Prop} : Ev (mLstO ms) s Q = Ev (mSeq ms) s fun l s' => fits l.length = true ∧ Q (.list l) s' := by with_unfolding_all exact ev_lstO_0
end
end Z
set_option Elab.async false
set_option linter.all false
set_option maxRecDepth 100000
set_option maxHeartbeats 2000000
namespace Z
open PySem L2
section
variable {K : Fg} {c : Ctx} {O : List Kd} {t : TE} {m : M D} {k : Kd}
def mLnS (ns js : List Nat) (m : M D) : M D := fun s => match m (wipeD s ns) with
  | .ok d s' => if scD d && fzSk js s' then .ok d (mix s s' js) else .no
  | .no => .no
def lfh : Kd → (D → Bool) × (List D → Bool)
  | .sh => (scD, fun _ => false)
  | .ls k => (fun d => match d with | .list ds => ds.all (lfh k).1 | _ => false, fun _ => false)
  | .te => (fun d => match d with | .tuple [] => true | _ => false, fun ds => ds.isEmpty)
  | .tc k r => (fun d => match d with | .tuple (d :: ds) => (lfh k).1 d && (lfh r).2 ds | _ => false, fun ds => match ds with | d :: ds => (lfh k).1 d && (lfh r).2 ds | _ => false)
  | .xr _ => (fun _ => true, fun _ => false)
  | _ => (fun _ => false, fun _ => false)
def mLnO (k : Kd) (ns js : List Nat) (m : M D) : M D := fun s => match m (wipeD s ns) with
  | .ok d s' => if (lfh k).1 d && fzSk js s' then .ok d (mix s s' js) else .no
  | .no => .no
end
section
variable {s : DS}
theorem ev_lnS_0 {ns js : List Nat} {m : M D} {Q : D → DS → Prop} : Ev0 (mLnS ns js m) s Q = Ev0 m (wipeD s ns) fun d s' => (scD d && fzSk js s') = true ∧ Q d (mix s s' js) := by
  unfold Ev0 mLnS
  cases m (wipeD s ns) with
  | no => rfl
  | ok d s' =>
    simp only
    by_cases hc : (scD d && fzSk js s') = true
    · simp only [hc, if_true, true_and]
    · simp only [hc, if_false, false_and, Bool.false_eq_true]
theorem ev_lnS {ns js : List Nat} {m : M D} {Q : D → DS → Prop} : Ev (mLnS ns js m) s Q = Ev m (wipeD s ns) fun d s' => (scD d && fzSk js s') = true ∧ Q d (mix s s' js) := by with_unfolding_all exact ev_lnS_0
theorem ev_lnO_0 {k : Kd} {ns js : List Nat} {m : M D} {Q : D → DS → Prop} : Ev0 (mLnO k ns js m) s Q = Ev0 m (wipeD s ns) fun d s' => ((lfh k).1 d && fzSk js s') = true ∧ Q d (mix s s' js) := by
  unfold Ev0 mLnO
  cases m (wipeD s ns) with
  | no => rfl
  | ok d s' =>
    simp only
    by_cases hc : ((lfh k).1 d && fzSk js s') = true
    · simp only [hc, if_true, true_and]
    · simp only [hc, if_false, false_and, Bool.false_eq_true]
theorem ev_lnO {k : Kd} {ns js : List Nat} {m : M D} {Q : D → DS → Prop} : Ev (mLnO k ns js m) s Q = Ev m (wipeD s ns) fun d s' => ((lfh k).1 d && fzSk js s') = true ∧ Q d (mix s s' js) := by with_unfolding_all exact ev_lnO_0
end
end Z
set_option Elab.async false
set_option linter.all false
set_option maxRecDepth 100000
set_option maxHeartbeats 2000000
namespace Z
open PySem L2
section
variable {K : Fg} {c : Ctx} {O Ob : List Kd} {te : TE} {m : M D}
structure DG2 (K : Fg) (c : Ctx) (O : List Kd) (g : TG) (mg : MG) : Prop where
  run : ∀ {F H : Hp} {σ : St} {fps : Nat → List Addr} {ds ds' : DS} {v : V} {d : D}, Rel K c O F H σ fps ds → Dp K F v d → mg d ds = some ds' → ∀ Q : St → Hp → Prop,
    (∀ H' σ' fps', Rel K c O F H' σ' fps' ds' → Q σ' H') → g v σ H Q
structure DGs2 (K : Fg) (c : Ctx) (O : List Kd) (g : TGs) (mg : List D → DS → Option DS) : Prop where
  run : ∀ {F H : Hp} {σ : St} {fps : Nat → List Addr} {ds ds' : DS} {vs : List V} {es : List D}, Rel K c O F H σ fps ds → DpAll K F vs es → mg es ds = some ds' → ∀ Q : St → Hp → Prop,
    (∀ H' σ' fps', Rel K c O F H' σ' fps' ds' → Q σ' H') → g vs σ H Q
def gFd (i : Nat) (f : Str) : MG := fun x s => match look s i with
  | some d => match dof d with
    | some l => if decide (l.length ≤ 1000) then some (s.set i (some (.dict (putDF f x l)))) else none
    | none => none
  | none => none
end
end Z
set_option Elab.async false
set_option linter.all false
set_option maxRecDepth 100000
set_option maxHeartbeats 2000000
namespace Z
open PySem L2
def isHole : D → Bool
  | .dict [(.none, .none)] => true
  | _ => false
def noHoleL : D → Bool
  | .list ds => ds.all fun x => !isHole x
  | _ => true
def nhF (f : Str) (x : D × D) : Bool := match x.1 with
  | .str g => !(decide (g = f)) || noHoleL x.2
  | _ => true
def noHoleF (f : Str) : D → Bool
  | .dict l => l.all (nhF f)
  | _ => true
theorem isHole_eq {d : D} (h : isHole d = true) : d = holeD := by
  unfold isHole at h
  split at h
  · rfl
  · cases h
section
variable {K : Fg} {F H : Hp} {a : Addr} {f : Str}
theorem FlO.mono {R R' : Str → OwR} (h : ∀ g v d fp, R g v d fp → R' g v d fp) : ∀ {vs : List (Str × V)} {ds : List (D × D)} {fs : List (List Addr)}, FlO R vs ds fs → FlO R' vs ds fs
  | _, _, _, .nil => .nil
  | _, _, _, .cons a t => .cons (h _ _ _ _ a) (t.mono h)
end
end Z
set_option Elab.async false
set_option linter.all false
set_option maxRecDepth 100000
set_option maxHeartbeats 2000000
namespace Z
open PySem L2
section
variable {K : Fg} {c : Ctx} {O : List Kd} {F H : Hp} {σ : St} {fps : Nat → List Addr} {ds : DS} {i j n : Nat} {f : Str} {k W : Kd} {a : Addr}
theorem st_ref {v : V} {d : D} {fp : List Addr} (h : isSt W = true) (o : Ow K F H W v d fp) : ∃ p cls l, v = .ref p ∧ d = .dict ((.none, .str cls) :: l) := by
  have o' : (Ow2 K F H W).a v d fp := o
  rw [(ob_of (K := K) (F := F) (H := H) h).2] at o'
  rcases o' with ⟨p, C, dx, cls, fs, ds, gs, e1, e2, _⟩ | ⟨z, p, cls, fs, ds, gs, e1, e2, _⟩
  · exact ⟨p, cls, ds, e1, e2⟩
  · exact ⟨p, cls, ds, e1, e2⟩
theorem st_hole {v : V} {d : D} {fp : List Addr} (h : isSt W = true) (o : Ow K F H W v d fp) : isHole d = false := by
  obtain ⟨p, cls, l, _, rfl⟩ := st_ref h o
  cases l <;> rfl
theorem set_get {α : Type} {l : List α} {i m : Nat} {x y : α} (h : (l.set i x)[m]? = some y) : (m = i ∧ y = x) ∨ (m ≠ i ∧ l[m]? = some y) := by
  by_cases z : m = i
  · subst z
    by_cases hl : m < l.length
    · rw [List.getElem?_set_self hl] at h; exact .inl ⟨rfl, (Option.some.inj h).symm⟩
    · rw [List.getElem?_eq_none (by rw [List.length_set]; omega)] at h; cases h
  · rw [List.getElem?_set_ne (Ne.symm z)] at h; exact .inr ⟨z, h⟩
theorem getD_set {l : List Kd} {i m : Nat} {x : Kd} (h : m ≠ i) : (l.set i x).getD m .sh = l.getD m .sh := by
  rw [List.getD_eq_getElem?_getD, List.getD_eq_getElem?_getD, List.getElem?_set_ne (Ne.symm h)]
end
end Z
set_option Elab.async false
set_option linter.all false
set_option maxRecDepth 100000
set_option maxHeartbeats 2000000
namespace Z
open PySem L2
section
variable {K : Fg} {c : Ctx} {O : List Kd} {F H : Hp} {σ : St} {fps : Nat → List Addr} {ds : DS} {i j n : Nat} {f : Str} {k kh W : Kd} {a : Addr} {T : List Addr}
end
end Z
set_option Elab.async false
set_option linter.all false
set_option maxRecDepth 100000
set_option maxHeartbeats 2000000
namespace Z
open PySem L2
def fillS (i j n : Nat) (f : Str) (s : DS) : Option DS := match s[i]?, s[j]? with
  | some (some d), some (some e) => match getP [.fd f, .ix n] d with
    | some x => match setP [.fd f, .ix n] d e with
      | some d2 => if isHole x && noHoleF f d2 then some ((s.set i (some d2)).set j none) else none
      | none => none
    | none => none
  | _, _ => none
def fillR (i j n : Nat) (f : Str) : RS → RS
  | .nx s => match fillS i j n f s with
    | some s' => .nx s'
    | none => .no
  | .rt d s => match fillS i j n f s with
    | some s' => .rt d s'
    | none => .no
  | .ex x s => match fillS i j n f s with
    | some s' => .ex x s'
    | none => .no
  | _ => .no
def sHole (i j : Nat) (f : Str) (ix : DS → Option Int) (mt : M D) (b : MS) : MS := fun s => match ix s with
  | some z => match s[i]? with
    | some (some d) => match getP [.fd f, .ix z.toNat] d with
      | some e => match setP [.fd f, .ix z.toNat] d holeD with
        | some d1 => match mt ((s.set j none).set i (some d1)) with
          | .ok _ s1 => if decide (j < s1.length) then fillR i j z.toNat f (b (s1.set j (some e))) else .no
          | .no => .no
        | none => .no
      | none => .no
    | _ => .no
  | none => .no
section
variable {K : Fg} {c : Ctx} {Ob O O' : List Kd}
end
end Z
set_option Elab.async false
set_option linter.all false
set_option maxRecDepth 100000
set_option maxHeartbeats 2000000
namespace Z
open PySem L2
def HoF (c : Ctx) (ps : List Kd) : Prop := c.Ox = none ∧ c.hx = false ∧ c.pk = pkOf ps ∧ ∀ i q, c.ow i q → isPm ps[i]? = true
theorem HoF.ow {c : Ctx} {ps : List Kd} (h : HoF c ps) {j : Nat} (hj : isPm ps[j]? = false) (q : Addr) : ¬ c.ow j q := fun z => by
  have := h.2.2.2 j q z
  rw [hj] at this
  cases this
section
variable {K : Fg} {c : Ctx} {O : List Kd} {k W : Kd} {te : TE} {m : M D} {a : Addr}
def mHoleQ (m : M D) : M D := bnd m fun d => fun s => if isHole d then .ok .none s else .no
end
section
variable {s : DS} {Nx Bk Ct : DS → Prop} {Ex : Xc → DS → Prop} {Rt : D → DS → Prop}
theorem ev_holeQ_0 {m : M D} {Q : D → DS → Prop} : Ev0 (mHoleQ m) s Q = Ev0 m s fun d s' => isHole d = true ∧ Q .none s' := by
  unfold mHoleQ; rw [ev_bnd_0]; refine ev_ext_0 fun d s' => ?_
  unfold Ev0
  dsimp only
  cases isHole d <;> simp
theorem ev_holeQ {m : M D} {Q : D → DS → Prop} : Ev (mHoleQ m) s Q = Ev m s fun d s' => isHole d = true ∧ Q .none s' := by with_unfolding_all exact ev_holeQ_0
theorem so_fill_0 {i j n : Nat} {f : Str} {Q : DS → Prop} : So0 (fillS i j n f s) Q = So0 (look s i) fun d => So0 (look s j) fun e => So0 (getP [.fd f, .ix n] d) fun x => So0 (setP [.fd f, .ix n] d e) fun d2 => (isHole x && noHoleF f d2) = true ∧ Q ((s.set i (some d2)).set j none) := by
  unfold fillS look
  cases s[i]? with
  | none => rfl
  | some o =>
    cases o with
    | none => cases s[j]? <;> rfl
    | some d =>
      cases s[j]? with
      | none => rfl
      | some o2 =>
        cases o2 with
        | none => rfl
        | some e =>
          dsimp only [So0]
          cases getP [.fd f, .ix n] d with
          | none => rfl
          | some x =>
            dsimp only
            cases setP [.fd f, .ix n] d e with
            | none => rfl
            | some d2 =>
              dsimp only
              cases (isHole x && noHoleF f d2) <;> simp
theorem so_fill {i j n : Nat} {f : Str} {Q : DS → Prop} : So (fillS i j n f s) Q = So (look s i) fun d => So (look s j) fun e => So (getP [.fd f, .ix n] d) fun x => So (setP [.fd f, .ix n] d e) fun d2 => (isHole x && noHoleF f d2) = true ∧ Q ((s.set i (some d2)).set j none) := by with_unfolding_all exact so_fill_0
theorem run_hole_0 {i j : Nat} {f : Str} {ix : DS → Option Int} {mt : M D} {b : MS} : Run0 (sHole i j f ix mt b) s Nx Rt Bk Ct Ex = So0 (ix s) fun z => So0 (look s i) fun d => So0 (getP [.fd f, .ix z.toNat] d) fun e => So0 (setP [.fd f, .ix z.toNat] d holeD) fun d1 => Ev0 mt ((s.set j none).set i (some d1)) fun _ s1 => decide (j < s1.length) = true ∧
    Run0 b (s1.set j (some e)) (fun s' => So0 (fillS i j z.toNat f s') Nx) (fun d s' => So0 (fillS i j z.toNat f s') fun s2 => Rt d s2) (fun _ => False) (fun _ => False) (fun x s' => So0 (fillS i j z.toNat f s') fun s2 => Ex x s2) := by
  unfold Run0 sHole look
  cases ix s with
  | none => rfl
  | some z =>
    dsimp only [So0]
    cases s[i]? with
    | none => rfl
    | some o =>
      cases o with
      | none => rfl
      | some d =>
        dsimp only
        cases getP [.fd f, .ix z.toNat] d with
        | none => rfl
        | some e =>
          dsimp only
          cases setP [.fd f, .ix z.toNat] d holeD with
          | none => rfl
          | some d1 =>
            dsimp only [Ev0]
            cases mt ((s.set j none).set i (some d1)) with
            | no => rfl
            | ok x s1 =>
              dsimp only
              cases decide (j < s1.length) with
              | false => simp
              | true =>
                simp only [if_true, true_and]
                unfold fillR
                cases b (s1.set j (some e)) with
                | nx s' => dsimp only; cases fillS i j z.toNat f s' <;> rfl
                | rt d s' => dsimp only; cases fillS i j z.toNat f s' <;> rfl
                | ex x s' => dsimp only; cases fillS i j z.toNat f s' <;> rfl
                | bk s' => rfl
                | ct s' => rfl
                | no => rfl
theorem run_hole {i j : Nat} {f : Str} {ix : DS → Option Int} {mt : M D} {b : MS} : Run (sHole i j f ix mt b) s Nx Rt Bk Ct Ex = So (ix s) fun z => So (look s i) fun d => So (getP [.fd f, .ix z.toNat] d) fun e => So (setP [.fd f, .ix z.toNat] d holeD) fun d1 => Ev mt ((s.set j none).set i (some d1)) fun _ s1 => decide (j < s1.length) = true ∧
    Run b (s1.set j (some e)) (fun s' => So (fillS i j z.toNat f s') Nx) (fun d s' => So (fillS i j z.toNat f s') fun s2 => Rt d s2) (fun _ => False) (fun _ => False) (fun x s' => So (fillS i j z.toNat f s') fun s2 => Ex x s2) := by with_unfolding_all exact run_hole_0
end
end Z
set_option Elab.async false
set_option linter.all false
set_option maxRecDepth 100000
set_option maxHeartbeats 2000000
namespace Z
open PySem L2
def clsD : D → Option Str
  | .dict ((.none, .str c) :: _) => some c
  | _ => none
def mMethQC (cls : Str) (f : FD) (m : Str) (n : Nat) (mr : M D) (ml : M (List D)) : M D := fun s => match mr s with
  | .ok e0 _ => if clsD e0 = some cls then mMethQ f m n mr ml s else .no
  | .no => .no
def mMethC (cls : Str) (f : FD) (m : Str) (n j : Nat) (ml : M (List D)) : M D := fun s => match look s j with
  | some e0 => if clsD e0 = some cls then mMeth f m n j ml s else .no
  | none => .no
section
variable {K : Fg} {c : Ctx} {O ps : List Kd} {k rk : Kd} {tl : TA} {ml : M (List D)} {f : FD} {mg : Str → Option Value} {E : XK}
def whichC (c1 c2 : Str) (d : D) : Option Bool := if clsD d = some c1 then some true else if clsD d = some c2 then some false else none
def mAltC (c1 c2 : Str) (mr : M D) (a b : M D) : M D := fun s => match mr s with
  | .ok e0 _ => match whichC c1 c2 e0 with
    | some true => a s
    | some false => b s
    | none => .no
  | .no => .no
end
section
variable {s : DS}
theorem ev_altC_0 {c1 c2 : Str} {mr a b : M D} {Q : D → DS → Prop} : Ev0 (mAltC c1 c2 mr a b) s Q = Ev0 mr s fun e0 _ => So0 (whichC c1 c2 e0) fun x => Br0 x (Ev0 a s Q) (Ev0 b s Q) := by
  unfold Ev0 mAltC
  cases mr s with
  | no => rfl
  | ok e0 s1 =>
    dsimp only
    cases whichC c1 c2 e0 with
    | none => rfl
    | some x => cases x <;> rfl
theorem which_1 {c1 c2 : Str} {l : List (D × D)} : whichC c1 c2 (.dict ((.none, .str c1) :: l)) = some true := by
  show (if (some c1 : Option Str) = some c1 then some true else _) = _
  rw [if_pos rfl]
theorem ev_altC {c1 c2 : Str} {mr a b : M D} {Q : D → DS → Prop} : Ev (mAltC c1 c2 mr a b) s Q = Ev mr s fun e0 _ => So (whichC c1 c2 e0) fun x => Br x (Ev a s Q) (Ev b s Q) := by with_unfolding_all exact ev_altC_0
theorem ev_methQC_0 {cls : Str} {f : FD} {m : Str} {n : Nat} {mr : M D} {ml : M (List D)} {Q : D → DS → Prop} : Ev0 (mMethQC cls f m n mr ml) s Q = Ev0 mr s fun e0 _ => clsD e0 = some cls ∧ Ev0 (mMethQ f m n mr ml) s Q := by
  unfold Ev0 mMethQC
  cases mr s with
  | no => rfl
  | ok e0 s1 =>
    dsimp only
    by_cases h : clsD e0 = some cls
    · rw [if_pos h]; simp [h]
    · rw [if_neg h]; simp [h]
theorem ev_methQC {cls : Str} {f : FD} {m : Str} {n : Nat} {mr : M D} {ml : M (List D)} {Q : D → DS → Prop} : Ev (mMethQC cls f m n mr ml) s Q = Ev mr s fun e0 _ => clsD e0 = some cls ∧ Ev (mMethQ f m n mr ml) s Q := by with_unfolding_all exact ev_methQC_0
theorem ev_methC_0 {cls : Str} {f : FD} {m : Str} {n j : Nat} {ml : M (List D)} {Q : D → DS → Prop} : Ev0 (mMethC cls f m n j ml) s Q = So0 (look s j) fun e0 => clsD e0 = some cls ∧ Ev0 (mMeth f m n j ml) s Q := by
  unfold Ev0 mMethC
  cases look s j with
  | none => rfl
  | some e0 =>
    dsimp only [So0]
    by_cases h : clsD e0 = some cls
    · rw [if_pos h]; simp [h]
    · rw [if_neg h]; simp [h]
theorem ev_methC {cls : Str} {f : FD} {m : Str} {n j : Nat} {ml : M (List D)} {Q : D → DS → Prop} : Ev (mMethC cls f m n j ml) s Q = So (look s j) fun e0 => clsD e0 = some cls ∧ Ev (mMeth f m n j ml) s Q := by with_unfolding_all exact ev_methC_0
theorem clsD_is {c : Str} {l : List (D × D)} : (clsD (.dict ((.none, .str c) :: l)) = some c) = True := by
  show ((some c : Option Str) = some c) = True
  simp
end
section
variable {K : Fg} {c : Ctx} {O Ob : List Kd} {te : TE} {m : M D}
end
section
variable {s : DS}
theorem so_gFd_0 {i : Nat} {f : Str} {x : D} {Q : DS → Prop} : So0 (gFd i f x s) Q = So0 (look s i) fun d => So0 (dof d) fun l => decide (l.length ≤ 1000) = true ∧ Q (s.set i (some (.dict (putDF f x l)))) := by
  unfold gFd
  cases look s i with
  | none => rfl
  | some d =>
    dsimp only [So0]
    cases dof d with
    | none => rfl
    | some l =>
      dsimp only
      cases decide (l.length ≤ 1000) <;> simp
theorem so_gFd {i : Nat} {f : Str} {x : D} {Q : DS → Prop} : So (gFd i f x s) Q = So (look s i) fun d => So (dof d) fun l => decide (l.length ≤ 1000) = true ∧ Q (s.set i (some (.dict (putDF f x l)))) := by with_unfolding_all exact so_gFd_0
end
end Z
set_option Elab.async false
set_option linter.all false
set_option maxRecDepth 100000
set_option maxHeartbeats 2000000
namespace Z
open PySem L2
def sFldI (i : Nat) (f : Str) (g : Int → Int) : MS := fun s => match look s i with
  | some d => match dof d with
    | some l => match fldD f l with
      | some (.int j) => if decide (l.length ≤ 1000) then .nx (s.set i (some (.dict (putDF f (.int (g j)) l)))) else .no
      | _ => .no
    | none => .no
  | none => .no
section
variable {K : Fg} {c : Ctx} {O Ob : List Kd}
end
section
variable {s : DS} {Nx Bk Ct : DS → Prop} {Ex : Xc → DS → Prop} {Rt : D → DS → Prop}
theorem run_fldI_0 {i : Nat} {f : Str} {g : Int → Int} : Run0 (sFldI i f g) s Nx Rt Bk Ct Ex = So0 (look s i) fun d => So0 (dof d) fun l => So0 (fldD f l) fun x => So0 (iof x) fun j => decide (l.length ≤ 1000) = true ∧ Nx (s.set i (some (.dict (putDF f (.int (g j)) l)))) := by
  unfold Run0 sFldI
  cases look s i with
  | none => rfl
  | some d =>
    dsimp only [So0]
    cases dof d with
    | none => rfl
    | some l =>
      dsimp only
      cases fldD f l with
      | none => rfl
      | some x =>
        dsimp only
        cases x with
        | int j => dsimp only [iof]; cases decide (l.length ≤ 1000) <;> simp
        | _ => rfl
theorem run_fldI {i : Nat} {f : Str} {g : Int → Int} : Run (sFldI i f g) s Nx Rt Bk Ct Ex = So (look s i) fun d => So (dof d) fun l => So (fldD f l) fun x => So (iof x) fun j => decide (l.length ≤ 1000) = true ∧ Nx (s.set i (some (.dict (putDF f (.int (g j)) l)))) := by with_unfolding_all exact run_fldI_0
end
end Z
set_option Elab.async false
set_option linter.all false
set_option maxRecDepth 100000
set_option maxHeartbeats 2000000
namespace Z
open PySem L2
def sDPutP (i : Nat) (mp : D → M (List Sel)) (mk m : M D) : MS := fun s => match m s with
  | .ok v s1 => match look s1 i with
    | some d => match mp d (s1.set i none) with
      | .ok π s2 => match mk s2 with
        | .ok k s3 => match getP π d with
          | some x => match dctD x with
            | some kvs => if kyOk 1 k && decide (kvs.length < sizeLine) then (match setP π d (.dict (dput k v kvs)) with
              | some d' => .nx (s3.set i (some d'))
              | none => .no) else .no
            | none => .no
          | none => .no
        | .no => .no
      | .no => .no
    | none => .no
  | .no => .no
section
variable {K : Fg} {c : Ctx} {O Ob : List Kd} {te ta tp : TE} {m mk : M D}
end
section
variable {s : DS} {Nx Bk Ct : DS → Prop} {Ex : Xc → DS → Prop} {Rt : D → DS → Prop}
theorem run_dputP_0 {i : Nat} {mp : D → M (List Sel)} {mk m : M D} : Run0 (sDPutP i mp mk m) s Nx Rt Bk Ct Ex = Ev0 m s fun v s1 => So0 (look s1 i) fun d => Ev0 (mp d) (s1.set i none) fun π s2 => Ev0 mk s2 fun k s3 => So0 (getP π d) fun x => So0 (dctD x) fun kvs =>
    (kyOk 1 k && decide (kvs.length < sizeLine)) = true ∧ So0 (setP π d (.dict (dput k v kvs))) fun d' => Nx (s3.set i (some d')) := by
  unfold Run0 sDPutP Ev0
  cases m s with
  | no => rfl
  | ok v s1 =>
    dsimp only
    cases look s1 i with
    | none => rfl
    | some d =>
      dsimp only [So0]
      cases mp d (s1.set i none) with
      | no => rfl
      | ok π s2 =>
        dsimp only
        cases mk s2 with
        | no => rfl
        | ok k s3 =>
          dsimp only
          cases getP π d with
          | none => rfl
          | some x =>
            dsimp only
            cases dctD x with
            | none => rfl
            | some kvs =>
              dsimp only
              cases (kyOk 1 k && decide (kvs.length < sizeLine)) with
              | false => simp
              | true =>
                simp only [if_true, true_and]
                cases setP π d (.dict (dput k v kvs)) <;> rfl
theorem run_dputP {i : Nat} {mp : D → M (List Sel)} {mk m : M D} : Run (sDPutP i mp mk m) s Nx Rt Bk Ct Ex = Ev m s fun v s1 => So (look s1 i) fun d => Ev (mp d) (s1.set i none) fun π s2 => Ev mk s2 fun k s3 => So (getP π d) fun x => So (dctD x) fun kvs =>
    (kyOk 1 k && decide (kvs.length < sizeLine)) = true ∧ So (setP π d (.dict (dput k v kvs))) fun d' => Nx (s3.set i (some d')) := by with_unfolding_all exact run_dputP_0
end
end Z
set_option Elab.async false
set_option linter.all false
set_option maxRecDepth 100000
set_option maxHeartbeats 2000000
namespace Z
open PySem L2
def mDGet2Q (mr mk mx : M D) : M D := bnd mr fun d => bnd mk fun k => bnd mx fun x => fun s => match dctD d with
  | some kvs => if kyOk 1 k then .ok ((dget k kvs).getD x) s else .no
  | none => .no
section
variable {K : Fg} {c : Ctx} {O : List Kd} {tr te tx : TE} {mr mk mx : M D}
end
section
variable {s : DS} {mr mk mx : M D}
theorem ev_dget2Q_0 {Q : D → DS → Prop} : Ev0 (mDGet2Q mr mk mx) s Q = Ev0 mr s fun d s1 => Ev0 mk s1 fun k s2 => Ev0 mx s2 fun x s' => So0 (dctD d) fun kvs => kyOk 1 k = true ∧ Q ((dget k kvs).getD x) s' := by
  unfold mDGet2Q
  rw [ev_bnd_0]; refine ev_ext_0 fun d s1 => ?_
  rw [ev_bnd_0]; refine ev_ext_0 fun k s2 => ?_
  rw [ev_bnd_0]; refine ev_ext_0 fun x s' => ?_
  unfold Ev0
  dsimp only
  cases dctD d with
  | none => rfl
  | some kvs => dsimp only [So0]; cases kyOk 1 k <;> simp
theorem ev_dget2Q {Q : D → DS → Prop} : Ev (mDGet2Q mr mk mx) s Q = Ev mr s fun d s1 => Ev mk s1 fun k s2 => Ev mx s2 fun x s' => So (dctD d) fun kvs => kyOk 1 k = true ∧ Q ((dget k kvs).getD x) s' := by with_unfolding_all exact ev_dget2Q_0
end
end Z
set_option Elab.async false
set_option linter.all false
set_option maxRecDepth 100000
namespace Z
open PySem L2
section
variable {K : Fg} {c : Ctx} {O ps : List Kd} {k : Kd} {tl : TA} {ml : M (List D)} {f : FD} {mg : Str → Option Value} {E : XK}
end
end Z
set_option Elab.async false
set_option linter.all false
set_option maxRecDepth 100000
set_option maxHeartbeats 1000000
namespace Z
open PySem L2
def mLenQ (m : M D) : M D := bnd m fun d => opt (match d with
  | .list ds => some (.int ds.length)
  | _ => none)
section
variable {K : Fg} {c : Ctx} {O : List Kd} {te : TE} {m : M D} {k : Kd}
end
section
variable {s : DS} {m : M D}
theorem ev_lenQ_0 {Q : D → DS → Prop} : Ev0 (mLenQ m) s Q = Ev0 m s fun d s' => So0 (match d with | .list ds => some (PyData.int ds.length) | _ => none) fun x => Q x s' := by
  unfold mLenQ; rw [ev_bnd_0]; refine ev_ext_0 fun d s' => ?_
  rw [ev_opt_0]
def lenQD : D → Option D
  | .list ds => some (.int ds.length)
  | _ => none
theorem ev_lenQ {Q : D → DS → Prop} : Ev (mLenQ m) s Q = Ev m s fun d s' => So (lenQD d) fun x => Q x s' := by with_unfolding_all exact ev_lenQ_0
theorem so_lenQ {ds : List D} {Q : D → Prop} : So (lenQD (.list ds)) Q = Q (.int ds.length) := by with_unfolding_all rfl
end
end Z
set_option Elab.async false
set_option linter.all false
set_option maxRecDepth 100000
set_option maxHeartbeats 2000000
namespace Z
open PySem L2
section
variable {K : Fg} {c : Ctx} {O : List Kd} {k : Kd} {m : M D}
end
section
variable {K : Fg} {c : Ctx} {Ob O O' : List Kd}
end
end Z
set_option Elab.async false
set_option linter.all false
set_option maxRecDepth 100000
set_option maxHeartbeats 2000000
namespace Z
open PySem L2
def fdsOk (R : Str → D → Bool) (ds : List (D × D)) : Bool := ds.all fun p => match p.1 with
  | .str g => R g p.2
  | _ => false
def lfn : Kd → (D → Bool) × (Str → D → Bool)
  | .sh => (noL, fun _ => noL)
  | .ls k => (fun d => match d with | .list ds => ds.all (lfn k).1 | _ => false, fun _ => noL)
  | .dc _ => (fun d => match d with | .dict [] => true | _ => false, fun _ => noL)
  | .oe _ => (fun d => match d with | .dict (_ :: ds) => fdsOk (fun _ => noL) ds | _ => false, fun _ => noL)
  | .of f k r => (fun d => match d with | .dict (_ :: ds) => fdsOk (fun g => if g = f then (lfn k).1 else (lfn r).2 g) ds | _ => false, fun g => if g = f then (lfn k).1 else (lfn r).2 g)
  | _ => (fun _ => false, fun _ => noL)
section
variable {K : Fg}
end
def mLnN (k : Kd) (ns js : List Nat) (m : M D) : M D := fun s => match m (wipeD s ns) with
  | .ok d s' => if (lfn k).1 d && fzSk js s' then .ok d (mix s s' js) else .no
  | .no => .no
def sAppL (i : Nat) (mp : D → M (List Sel)) (k1 : Kd) (ns js : List Nat) (m : M D) : MS := fun s => match s[i]? with
  | some (some d) => match mp d (s.set i none) with
    | .ok π s2 => match mLnN k1 ns js m (s2.set i (some d)) with
      | .ok v s3 => match getP π d with
        | some (.list xs) => if decide (xs.length < sizeLine) then (match setP π d (.list (xs ++ [v])) with
          | some d' => .nx (s3.set i (some d'))
          | none => .no) else .no
        | _ => .no
      | .no => .no
    | .no => .no
  | _ => .no
section
variable {K : Fg} {c : Ctx} {Ob O : List Kd} {te tp : TE} {m : M D}
end
section
variable {α : Type} {s : DS} {Nx Bk Ct : DS → Prop} {Ex : Xc → DS → Prop} {Rt : D → DS → Prop}
theorem ev_lnN_0 {k : Kd} {ns js : List Nat} {m : M D} {Q : D → DS → Prop} : Ev0 (mLnN k ns js m) s Q = Ev0 m (wipeD s ns) fun d s' => ((lfn k).1 d && fzSk js s') = true ∧ Q d (mix s s' js) := by
  unfold Ev0 mLnN
  cases m (wipeD s ns) with
  | no => rfl
  | ok d s' =>
    simp only
    by_cases hc : ((lfn k).1 d && fzSk js s') = true
    · simp only [hc, if_true, true_and]
    · simp only [hc, if_false, false_and, Bool.false_eq_true]
theorem ev_lnN {k : Kd} {ns js : List Nat} {m : M D} {Q : D → DS → Prop} : Ev (mLnN k ns js m) s Q = Ev m (wipeD s ns) fun d s' => ((lfn k).1 d && fzSk js s') = true ∧ Q d (mix s s' js) := by with_unfolding_all exact ev_lnN_0
theorem run_appL_0 {i : Nat} {k1 : Kd} {ns js : List Nat} {mp : D → M (List Sel)} {m : M D} : Run0 (sAppL i mp k1 ns js m) s Nx Rt Bk Ct Ex = So0 (look s i) fun d => Ev0 (mp d) (s.set i none) fun π s2 => Ev0 (mLnN k1 ns js m) (s2.set i (some d)) fun v s3 => So0 (getP π d) fun x => So0 (lof x) fun xs => decide (xs.length < sizeLine) = true ∧ So0 (setP π d (.list (xs ++ [v]))) fun d' => Nx (s3.set i (some d')) := by
  unfold Run0 sAppL look Ev0
  cases s[i]? with
  | none => rfl
  | some o =>
    cases o with
    | none => rfl
    | some d =>
      simp only [so_some_0]
      cases mp d (s.set i none) with
      | no => rfl
      | ok π s2 =>
        simp only
        cases mLnN k1 ns js m (s2.set i (some d)) with
        | no => rfl
        | ok v s3 =>
          simp only
          cases getP π d with
          | none => rfl
          | some x =>
            simp only [so_some_0]
            cases x with
            | list xs =>
              simp only [lof, so_some_0]
              by_cases hc : decide (xs.length < sizeLine) = true
              · simp only [hc, if_true, true_and]
                cases setP π d (.list (xs ++ [v])) <;> rfl
              · simp only [hc, if_false, false_and, Bool.false_eq_true]
            | _ => rfl
theorem run_appL {i : Nat} {k1 : Kd} {ns js : List Nat} {mp : D → M (List Sel)} {m : M D} : Run (sAppL i mp k1 ns js m) s Nx Rt Bk Ct Ex = So (look s i) fun d => Ev (mp d) (s.set i none) fun π s2 => Ev (mLnN k1 ns js m) (s2.set i (some d)) fun v s3 => So (getP π d) fun x => So (lof x) fun xs => decide (xs.length < sizeLine) = true ∧ So (setP π d (.list (xs ++ [v]))) fun d' => Nx (s3.set i (some d')) := by with_unfolding_all exact run_appL_0
end
end Z
set_option Elab.async false
set_option linter.all false
set_option maxRecDepth 100000
set_option maxHeartbeats 2000000
namespace ZE
open PySem PySem.Spec PyProof.Rows L2
open Sem (wp)
section
variable {prog : Program} {w : World} {A : Around} {E : Value → Shared → Prop}
structure Mk (p : Prop) : Prop where
  out : p
abbrev ZZ (z TI TO : Addr) (f0 : Value) (f1 : Bool) : Obj := { cls := .type "zip", dict := none, data := .fields #[f0, .bool f1, .bool false, .ref TI, .ref TO], slots := #[] }
def Out (f0 : Value) (f1 : Bool) : Prop := (f0 = .none ∧ f1 = false) ∨ ∃ T : Addr, f0 = rawInt T
structure Zst (z TI TO i1 i2 l1 l2 : Addr) (k1 k2 : Nat) (h : Heap) : Prop where
  z : ∃ f0 f1, Out f0 f1 ∧ h.get? z = some (ZZ z TI TO f0 f1)
  ti : IsPair h TI (.ref i1) (.ref i2)
  to : ∃ a b, IsPair h TO a b
  i1 : h.IsListIter i1 l1 k1
  i2 : h.IsListIter i2 l2 k2
end
end ZE
set_option Elab.async false
set_option linter.all false
set_option maxRecDepth 100000
set_option maxHeartbeats 2000000
namespace ZE
open PySem PySem.Spec PyProof.Rows L2
open Sem (wp)
section
variable {prog : Program} {w : World} {A : Around} {E : Value → Shared → Prop}
end
end ZE
set_option Elab.async false
set_option linter.all false
set_option maxRecDepth 100000
set_option maxHeartbeats 2000000
namespace ZE
open PySem PySem.Spec PyProof.Rows L2
open Sem (wp)
section
variable {prog : Program} {w : World} {A : Around} {E : Value → Shared → Prop}
end
end ZE
set_option Elab.async false
set_option linter.all false
set_option maxRecDepth 100000
set_option maxHeartbeats 2000000
namespace ZE
open PySem PySem.Spec PyProof.Rows L2
open Sem (wp)
section
variable {prog : Program} {w : World} {A : Around} {E : Value → Shared → Prop} {s : Shared}
end
end ZE
set_option Elab.async false
set_option linter.all false
set_option maxRecDepth 100000
set_option maxHeartbeats 1000000
namespace Z
open PySem L2
def mEnumz (ml : M (List D)) : M (List D) := bnd ml fun es => opt ((twoL es).map fun p => enumD (zipD p.1 p.2))
def r3D : List D → Option (Int × Int × Int)
  | [.int i, .int j, .int k] => some (i, j, k)
  | _ => none
def r3C (p : Int × Int × Int) : Bool := decide (p.2.2 ≠ 0) && decide (p.2.2.natAbs < 1073741824) && Builtin.Range.small p.1 p.2.1 p.2.2
def rg3D (p : Int × Int × Int) : List D := (List.range (Builtin.Range.rangeSize p.1 p.2.1 p.2.2).toNat).map fun i => .int (p.1 + (i : Nat) * p.2.2)
def mR3 (m : M (List D)) : M (List D) := bnd m fun ds => opt ((r3D ds).bind fun p => if r3C p = true then some (rg3D p) else none)
section
variable {K : Fg} {c : Ctx} {O : List Kd}
end
section
variable {s : DS}
theorem ev_enumz_0 {ml : M (List D)} {Q : List D → DS → Prop} : Ev0 (mEnumz ml) s Q = Ev0 ml s fun es s' => So0 ((twoL es).map fun p => enumD (zipD p.1 p.2)) fun zs => Q zs s' := by
  unfold mEnumz; rw [ev_bnd_0]; exact ev_ext_0 fun es s' => ev_opt_0
theorem ev_enumz {ml : M (List D)} {Q : List D → DS → Prop} : Ev (mEnumz ml) s Q = Ev ml s fun es s' => So ((twoL es).map fun p => enumD (zipD p.1 p.2)) fun zs => Q zs s' := by with_unfolding_all exact ev_enumz_0
theorem so_enumz {xs ys : List D} {Q : List D → Prop} : So ((twoL [.list xs, .list ys]).map fun p => enumD (zipD p.1 p.2)) Q = Q (enumD (zipD xs ys)) := by with_unfolding_all exact nr rfl
theorem ev_R3_0 {m : M (List D)} {Q : List D → DS → Prop} : Ev0 (mR3 m) s Q = Ev0 m s fun d s' => So0 (r3D d) fun p => r3C p = true ∧ Q (rg3D p) s' := by
  unfold mR3; rw [ev_bnd_0]; refine ev_ext_0 fun d s' => ?_; rw [ev_opt_0]
  cases r3D d with
  | none => rfl
  | some p =>
    show So0 (if r3C p = true then some (rg3D p) else none) _ = _
    rw [so_if_0]; rfl
theorem ev_R3 {m : M (List D)} {Q : List D → DS → Prop} : Ev (mR3 m) s Q = Ev m s fun d s' => So (r3D d) fun p => r3C p = true ∧ Q (rg3D p) s' := by with_unfolding_all exact ev_R3_0
theorem so_r3 {i j k : Int} {Q : Int × Int × Int → Prop} : So (r3D [.int i, .int j, .int k]) Q = Q (i, j, k) := by with_unfolding_all exact nr rfl
end
end Z
set_option Elab.async false
set_option linter.all false
set_option maxRecDepth 100000
set_option maxHeartbeats 2000000
namespace ZE
open PySem PySem.Spec PyProof.Rows L2
section
variable {X : Cx} {x n x2 : Str} {c c2 : Value} {i : Nat} {body su su2 : List Stmt} {b₀ b₂ : Stmt} {np np2 pos pos' pos2 : Pos} {tb : WX → TS} {ts ts2 : Addr → Value → Option Addr → TS} {Wout : WX}
end
end ZE
set_option Elab.async false
set_option linter.all false
set_option maxRecDepth 100000
set_option maxHeartbeats 2000000
namespace Z
open PySem PySem.Spec PyProof.Rows L2
section
variable {X : Cx} {x n x2 : Str} {c c2 : Value} {i : Nat} {body su su2 : List Stmt} {b₀ b₂ : Stmt} {np np2 pos pos' pos2 : Pos} {tb : WX → TS} {ts ts2 : Addr → Value → Option Addr → TS} {Wout : WX}
end
def xSel (m : M D) (a b : MX) : MX := fun s => match m s with
  | .ok (.int i) s1 => if i = 0 then a s1 else if i = 1 then b s1 else .no
  | _ => .no
section
variable {K : Fg} {c : Ctx} {O : List Kd} {k : Kd} {ti ta tb : TE} {m : M D} {ma mb : MX}
end
section
variable {s : DS}
theorem xv_sel_0 {m : M D} {a b : MX} {Q : D → DS → Prop} {E : Xc → DS → Prop} : EvX0 (xSel m a b) s Q E = Ev0 m s fun d s1 => So0 (iof d) fun i => Br0 (decide (i = 0)) (EvX0 a s1 Q E) (Br0 (decide (i = 1)) (EvX0 b s1 Q E) False) := by
  unfold EvX0 xSel Ev0
  cases m s with
  | no => rfl
  | ok d s1 =>
    cases d <;> try rfl
    rename_i i
    show _ = Br0 (decide (i = 0)) _ _
    by_cases h : i = 0
    · subst h; rfl
    · dsimp only
      rw [if_neg h, decide_eq_false h]
      by_cases h1 : i = 1
      · subst h1; rfl
      · rw [if_neg h1, decide_eq_false h1]; rfl
theorem xv_sel {m : M D} {a b : MX} {Q : D → DS → Prop} {E : Xc → DS → Prop} : EvX (xSel m a b) s Q E = Ev m s fun d s1 => So (iof d) fun i => Br (decide (i = 0)) (EvX a s1 Q E) (Br (decide (i = 1)) (EvX b s1 Q E) False) := by with_unfolding_all exact xv_sel_0
end
end Z
set_option Elab.async false
set_option linter.all false
set_option maxRecDepth 100000
set_option maxHeartbeats 2000000
namespace Z
open PySem PySem.Spec PyProof.Rows L2
section
variable {K : Fg} {c : Ctx} {Ob O : List Kd} {te : TE} {mx : MX}
end
def xMake (f : FD) (cls : Str) (n : Nat) (ml : M (List D)) : MX := fun s => match ml s with
  | .ok xs s1 => if xs.length = n then (match f (.dict [(.none, .str cls)] :: xs) with
    | .ok .none (e' :: _) => .ok e' s1
    | .ex x _ => .ex x s1
    | _ => .no) else .no
  | .no => .no
section
variable {K : Fg} {c : Ctx} {O ps : List Kd} {k : Kd} {tl : TA} {ml : M (List D)} {mg : Str → Option Value} {f : FD} {E : XK}
end
def okOf (m : MX) : M D := fun s => match m s with
  | .ok d s' => .ok d s'
  | _ => .no
def xLnN (k : Kd) (ns js : List Nat) (m : MX) : MX := fun s => match m (wipeD s ns) with
  | .ok d s' => if (lfn k).1 d && fzSk js s' then .ok d (mix s s' js) else .no
  | .ex x s' => if x.fs.isEmpty && fzSk js s' then .ex x (mix s s' js) else .no
  | .no => .no
def sAppLX (i : Nat) (mp : D → M (List Sel)) (k1 : Kd) (ns js : List Nat) (m : MX) : MS := fun s => match s[i]? with
  | some (some d) => match mp d (s.set i none) with
    | .ok π s2 => match xLnN k1 ns js m (s2.set i (some d)) with
      | .ok v s3 => match getP π d with
        | some (.list xs) => if decide (xs.length < sizeLine) then (match setP π d (.list (xs ++ [v])) with
          | some d' => .nx (s3.set i (some d'))
          | none => .no) else .no
        | _ => .no
      | .ex x s3 => match getP π d with
        | some (.list _) => .ex x s3
        | _ => .no
      | .no => .no
    | .no => .no
  | _ => .no
section
variable {K : Fg} {c : Ctx} {Ob O : List Kd} {te tp : TE} {m : MX}
end
end Z
set_option Elab.async false
set_option linter.all false
set_option maxRecDepth 100000
set_option maxHeartbeats 2000000
namespace Z
open PySem PySem.Spec PyProof.Rows L2
section
variable {K : Fg} {c : Ctx} {O : List Kd} {t : TE} {m : M D} {k : Kd}
end
def mSortDQ (mr : M D) : M D := bnd mr fun d => fun s => match dctD d with
  | some kvs => match pairsD kvs with
    | some ps => .ok (.list ((sortPr ps).map prD)) s
    | none => .no
  | none => .no
def mDGetQ (mr mk : M D) : M D := bnd mr fun d => bnd mk fun k => fun s => match dctD d with
  | some kvs => if kyOk 1 k then (match dget k kvs with
    | some v => .ok v s
    | none => .no) else .no
  | none => .no
section
variable {K : Fg} {c : Ctx} {O : List Kd} {tr te : TE} {mr mk : M D}
end
section
variable {s : DS} {mr mk : M D} {Nx Bk Ct : DS → Prop} {Ex : Xc → DS → Prop} {Rt : D → DS → Prop}
theorem ev_sortDQ_0 {Q : D → DS → Prop} : Ev0 (mSortDQ mr) s Q = Ev0 mr s fun d s1 => So0 (dctD d) fun kvs => So0 (pairsD kvs) fun ps => Q (.list ((sortPr ps).map prD)) s1 := by
  unfold mSortDQ
  rw [ev_bnd_0]; refine ev_ext_0 fun d s1 => ?_
  unfold Ev0
  dsimp only
  cases dctD d with
  | none => rfl
  | some kvs => dsimp only [So0]; cases pairsD kvs <;> rfl
theorem ev_sortDQ {Q : D → DS → Prop} : Ev (mSortDQ mr) s Q = Ev mr s fun d s1 => So (dctD d) fun kvs => So (pairsD kvs) fun ps => Q (.list ((sortPr ps).map prD)) s1 := by with_unfolding_all exact ev_sortDQ_0
theorem ev_dgetQ_0 {Q : D → DS → Prop} : Ev0 (mDGetQ mr mk) s Q = Ev0 mr s fun d s1 => Ev0 mk s1 fun k s' => So0 (dctD d) fun kvs => kyOk 1 k = true ∧ So0 (dget k kvs) fun v => Q v s' := by
  unfold mDGetQ
  rw [ev_bnd_0]; refine ev_ext_0 fun d s1 => ?_
  rw [ev_bnd_0]; refine ev_ext_0 fun k s2 => ?_
  unfold Ev0
  dsimp only
  cases dctD d with
  | none => rfl
  | some kvs =>
    dsimp only [So0]
    cases kyOk 1 k
    · simp
    · simp only [if_true, true_and]
      cases dget k kvs <;> rfl
theorem ev_dgetQ {Q : D → DS → Prop} : Ev (mDGetQ mr mk) s Q = Ev mr s fun d s1 => Ev mk s1 fun k s' => So (dctD d) fun kvs => kyOk 1 k = true ∧ So (dget k kvs) fun v => Q v s' := by with_unfolding_all exact ev_dgetQ_0
theorem xv_xmk_0 {f : FD} {cls : Str} {n : Nat} {a : M (List D)} {Q : D → DS → Prop} {E : Xc → DS → Prop} : EvX0 (xMake f cls n a) s Q E = Ev0 a s fun xs s' => xs.length = n ∧ ClX0 f (.dict [(.none, .str cls)] :: xs) (fun d as => So0 (nonO d) fun _ => So0 (hdO as) fun e' => Q e' s') fun x _ => E x s' := by
  unfold EvX0 xMake Ev0
  cases a s with
  | no => rfl
  | ok xs s' =>
    dsimp only
    by_cases h : xs.length = n
    · rw [if_pos h]
      simp only [h, true_and]
      unfold ClX0
      cases f (.dict [(.none, .str cls)] :: xs) with
      | no => rfl
      | ex x as => rfl
      | ok d as =>
        cases d <;> try rfl
        cases as <;> rfl
    · rw [if_neg h]
      simp only [h, false_and]
theorem xv_xmk {f : FD} {cls : Str} {n : Nat} {a : M (List D)} {Q : D → DS → Prop} {E : Xc → DS → Prop} : EvX (xMake f cls n a) s Q E = Ev a s fun xs s' => xs.length = n ∧ ClX f (.dict [(.none, .str cls)] :: xs) (fun d as => So (nonO d) fun _ => So (hdO as) fun e' => Q e' s') fun x _ => E x s' := by with_unfolding_all exact xv_xmk_0
theorem run_appLX_0 {i : Nat} {k1 : Kd} {ns js : List Nat} {mp : D → M (List Sel)} {m : MX} : Run0 (sAppLX i mp k1 ns js m) s Nx Rt Bk Ct Ex = So0 (look s i) fun d => Ev0 (mp d) (s.set i none) fun π s2 => EvX0 m (wipeD (s2.set i (some d)) ns) (fun v s3 => ((lfn k1).1 v && fzSk js s3) = true ∧ So0 (getP π d) fun x => So0 (lof x) fun xs => decide (xs.length < sizeLine) = true ∧ So0 (setP π d (.list (xs ++ [v]))) fun d' => Nx ((mix (s2.set i (some d)) s3 js).set i (some d'))) fun x s3 => (x.fs.isEmpty && fzSk js s3) = true ∧ So0 (getP π d) fun y => So0 (lof y) fun _ => Ex x (mix (s2.set i (some d)) s3 js) := by
  unfold Run0 sAppLX look Ev0 EvX0
  cases s[i]? with
  | none => rfl
  | some o =>
    cases o with
    | none => rfl
    | some d =>
      simp only [so_some_0]
      cases mp d (s.set i none) with
      | no => rfl
      | ok π s2 =>
        simp only
        unfold xLnN
        cases m (wipeD (s2.set i (some d)) ns) with
        | no => rfl
        | ok v s3 =>
          simp only
          by_cases hz : ((lfn k1).1 v && fzSk js s3) = true
          · simp only [hz, if_true, true_and]
            cases getP π d with
            | none => rfl
            | some x =>
              simp only [so_some_0]
              cases x with
              | list xs =>
                simp only [lof, so_some_0]
                by_cases hc : decide (xs.length < sizeLine) = true
                · simp only [hc, if_true, true_and]
                  cases setP π d (.list (xs ++ [v])) <;> rfl
                · simp only [hc, if_false, false_and, Bool.false_eq_true]
              | _ => rfl
          · simp only [hz, if_false, false_and, Bool.false_eq_true]
        | ex x s3 =>
          simp only
          by_cases hz : (x.fs.isEmpty && fzSk js s3) = true
          · simp only [hz, if_true, true_and]
            cases getP π d with
            | none => rfl
            | some x =>
              simp only [so_some_0]
              cases x <;> rfl
          · simp only [hz, if_false, false_and, Bool.false_eq_true]
theorem run_appLX {i : Nat} {k1 : Kd} {ns js : List Nat} {mp : D → M (List Sel)} {m : MX} : Run (sAppLX i mp k1 ns js m) s Nx Rt Bk Ct Ex = So (look s i) fun d => Ev (mp d) (s.set i none) fun π s2 => EvX m (wipeD (s2.set i (some d)) ns) (fun v s3 => ((lfn k1).1 v && fzSk js s3) = true ∧ So (getP π d) fun x => So (lof x) fun xs => decide (xs.length < sizeLine) = true ∧ So (setP π d (.list (xs ++ [v]))) fun d' => Nx ((mix (s2.set i (some d)) s3 js).set i (some d'))) fun x s3 => (x.fs.isEmpty && fzSk js s3) = true ∧ So (getP π d) fun y => So (lof y) fun _ => Ex x (mix (s2.set i (some d)) s3 js) := by with_unfolding_all exact run_appLX_0
end
end Z
set_option Elab.async false
set_option linter.all false
set_option maxRecDepth 100000
set_option maxHeartbeats 2000000
namespace Z
open PySem PySem.Spec PyProof.Rows L2
section
variable {K : Fg} {c : Ctx} {O : List Kd} {F H : Hp} {σ : L2.St} {fps : Nat → List Addr} {ds : DS} {k : Kd} {f : Str} {i : Nat}
end
def sHoleX (i j : Nat) (f : Str) (ix : DS → Option Int) (mx : MX) (b : MS) : MS := fun s => match (ix s).bind fun z => if 0 ≤ z then (look s i).bind (getP [.fd f, .ix z.toNat]) else none with
  | some _ => sHole i j f ix (okOf mx) b s
  | none => match mx s with
    | .ex x s1 => match look s1 i with
      | some d => if noHoleF f d = true then .ex x s1 else .no
      | none => .no
    | _ => .no
section
variable {K : Fg} {c : Ctx} {Ob O : List Kd}
end
section
variable {s : DS} {Nx Bk Ct : DS → Prop} {Ex : Xc → DS → Prop} {Rt : D → DS → Prop}
theorem ev_okOf_0 {m : MX} {Q : D → DS → Prop} : Ev0 (okOf m) s Q = EvX0 m s Q fun _ _ => False := by
  unfold Ev0 EvX0 okOf
  cases m s <;> rfl
theorem ev_okOf {m : MX} {Q : D → DS → Prop} : Ev (okOf m) s Q = EvX m s Q fun _ _ => False := by with_unfolding_all exact ev_okOf_0
def holeAt (i : Nat) (f : Str) (z : Option Int) (s : DS) : Bool := (z.bind fun z => if 0 ≤ z then (look s i).bind (getP [.fd f, .ix z.toNat]) else none).isSome
theorem run_holeX_0 {i j : Nat} {f : Str} {ix : DS → Option Int} {mx : MX} {b : MS} : Run0 (sHoleX i j f ix mx b) s Nx Rt Bk Ct Ex = Br0 (holeAt i f (ix s) s) (Run0 (sHole i j f ix (okOf mx) b) s Nx Rt Bk Ct Ex) (EvX0 mx s (fun _ _ => False) fun x s1 => So0 (look s1 i) fun d => noHoleF f d = true ∧ Ex x s1) := by
  unfold Run0 sHoleX holeAt
  cases (ix s).bind fun z => if 0 ≤ z then (look s i).bind (getP [.fd f, .ix z.toNat]) else none with
  | some e => rfl
  | none =>
    dsimp only
    show _ = EvX0 mx s _ _
    unfold EvX0
    cases mx s with
    | no => rfl
    | ok d s1 => rfl
    | ex x s1 =>
      dsimp only
      cases look s1 i with
      | none => rfl
      | some d =>
        dsimp only [So0]
        by_cases h : noHoleF f d = true
        · rw [if_pos h]; simp [h]
        · rw [if_neg h]; simp [h]
theorem run_holeX {i j : Nat} {f : Str} {ix : DS → Option Int} {mx : MX} {b : MS} : Run (sHoleX i j f ix mx b) s Nx Rt Bk Ct Ex = Br (holeAt i f (ix s) s) (Run (sHole i j f ix (okOf mx) b) s Nx Rt Bk Ct Ex) (EvX mx s (fun _ _ => False) fun x s1 => So (look s1 i) fun d => noHoleF f d = true ∧ Ex x s1) := by with_unfolding_all exact run_holeX_0
end
end Z
set_option Elab.async false
set_option linter.all false
set_option maxRecDepth 100000
set_option maxHeartbeats 2000000
namespace Z
open PySem PySem.Spec PyProof.Rows L2
def xMethQ (f : FD) (m : Str) (n : Nat) (mr : M D) (ml : M (List D)) : MX := fun s => match mr s with
  | .ok e s1 => match noFd m e with
    | some _ => match ml s1 with
      | .ok xs s2 => if xs.length = n then (match f (e :: xs) with
        | .ok d _ => .ok d s2
        | .ex x _ => .ex x s2
        | .no => .no) else .no
      | .no => .no
    | none => .no
  | .no => .no
def xHoleQ (m : MX) : MX := fun s => match m s with
  | .ok d s' => if isHole d then .ok .none s' else .no
  | .ex x s' => .ex x s'
  | .no => .no
def xLnO (k : Kd) (ns js : List Nat) (m : MX) : MX := fun s => match m (wipeD s ns) with
  | .ok d s' => if (lfh k).1 d && fzSk js s' then .ok d (mix s s' js) else .no
  | .ex x s' => if x.fs.isEmpty && fzSk js s' then .ex x (mix s s' js) else .no
  | .no => .no
section
variable {K : Fg} {c : Ctx} {O : List Kd} {ps : List Kd} {rk k : Kd} {tl : TA} {ml : M (List D)} {mg : Str → Option Value} {f : FD} {W : Value → Option Addr → L2.St → Hp → Prop}
end
section
variable {s : DS} {Q : D → DS → Prop} {E : Xc → DS → Prop}
theorem xv_methQ_0 {f : FD} {nm : Str} {n : Nat} {mr : M D} {ml : M (List D)} : EvX0 (xMethQ f nm n mr ml) s Q E = Ev0 mr s fun e s1 => So0 (noFd nm e) fun _ => Ev0 ml s1 fun xs s2 => xs.length = n ∧ ClX0 f (e :: xs) (fun d _ => Q d s2) fun x _ => E x s2 := by
  unfold EvX0 xMethQ Ev0
  cases mr s with
  | no => rfl
  | ok e s1 =>
    dsimp only
    cases noFd nm e with
    | none => rfl
    | some u =>
      dsimp only [So0]
      cases ml s1 with
      | no => rfl
      | ok xs s2 =>
        dsimp only
        by_cases h : xs.length = n
        · rw [if_pos h]
          dsimp only [ClX0]
          cases f (e :: xs) <;> simp [h]
        · rw [if_neg h]; simp [h]
theorem xv_methQ {f : FD} {nm : Str} {n : Nat} {mr : M D} {ml : M (List D)} : EvX (xMethQ f nm n mr ml) s Q E = Ev mr s fun e s1 => So (noFd nm e) fun _ => Ev ml s1 fun xs s2 => xs.length = n ∧ ClX f (e :: xs) (fun d _ => Q d s2) fun x _ => E x s2 := by with_unfolding_all exact xv_methQ_0
theorem xv_holeQ_0 {m : MX} : EvX0 (xHoleQ m) s Q E = EvX0 m s (fun d s' => isHole d = true ∧ Q .none s') E := by
  unfold EvX0 xHoleQ
  cases m s with
  | no => rfl
  | ex x s' => rfl
  | ok d s' =>
    dsimp only
    cases isHole d <;> simp
theorem xv_holeQ {m : MX} : EvX (xHoleQ m) s Q E = EvX m s (fun d s' => isHole d = true ∧ Q .none s') E := by with_unfolding_all exact xv_holeQ_0
theorem xv_lnO_0 {k : Kd} {ns js : List Nat} {m : MX} : EvX0 (xLnO k ns js m) s Q E = EvX0 m (wipeD s ns) (fun d s' => ((lfh k).1 d && fzSk js s') = true ∧ Q d (mix s s' js)) fun x s' => (x.fs.isEmpty && fzSk js s') = true ∧ E x (mix s s' js) := by
  unfold EvX0 xLnO
  cases m (wipeD s ns) with
  | no => rfl
  | ex x s' =>
    dsimp only
    cases (x.fs.isEmpty && fzSk js s') <;> simp
  | ok d s' =>
    dsimp only
    cases ((lfh k).1 d && fzSk js s') <;> simp
theorem xv_lnO {k : Kd} {ns js : List Nat} {m : MX} : EvX (xLnO k ns js m) s Q E = EvX m (wipeD s ns) (fun d s' => ((lfh k).1 d && fzSk js s') = true ∧ Q d (mix s s' js)) fun x s' => (x.fs.isEmpty && fzSk js s') = true ∧ E x (mix s s' js) := by with_unfolding_all exact xv_lnO_0
end
end Z
set_option Elab.async false
set_option linter.all false
set_option maxRecDepth 100000
set_option maxHeartbeats 2000000
namespace Z
open PySem L2
def mEnumQ (mr : M D) : M (List D) := bnd mr fun d => opt (match d with | .list xs => some (enumD xs) | _ => none)
def dropE (j : Nat) : RS → RS
  | .nx s => .nx (s.set j none)
  | .ct s => .ct (s.set j none)
  | .bk s => .bk (s.set j none)
  | r => r
def sDropS (j : Nat) (b : MS) : MS := fun s => dropE j (b s)
section
variable {K : Fg} {c : Ctx} {O Ob : List Kd} {F H : Hp} {σ : St} {fps : Nat → List Addr} {ds : DS}
end
section
variable {s : DS} {Nx Bk Ct : DS → Prop} {Ex : Xc → DS → Prop} {Rt : D → DS → Prop}
theorem ev_enumQ_0 {mr : M D} {Q : List D → DS → Prop} : Ev0 (mEnumQ mr) s Q = Ev0 mr s fun d s' => So0 (lof d) fun xs => Q (enumD xs) s' := by
  unfold mEnumQ
  rw [ev_bnd_0]
  refine ev_ext_0 fun d s' => ?_
  cases d <;> rfl
theorem ev_enumQ {mr : M D} {Q : List D → DS → Prop} : Ev (mEnumQ mr) s Q = Ev mr s fun d s' => So (lof d) fun xs => Q (enumD xs) s' := by with_unfolding_all exact ev_enumQ_0
theorem run_dropS_0 {j : Nat} {b : MS} : Run0 (sDropS j b) s Nx Rt Bk Ct Ex = Run0 b s (fun s' => Nx (s'.set j none)) Rt (fun s' => Bk (s'.set j none)) (fun s' => Ct (s'.set j none)) Ex := by
  unfold Run0 sDropS
  cases b s <;> rfl
theorem run_dropS {j : Nat} {b : MS} : Run (sDropS j b) s Nx Rt Bk Ct Ex = Run b s (fun s' => Nx (s'.set j none)) Rt (fun s' => Bk (s'.set j none)) (fun s' => Ct (s'.set j none)) Ex := by with_unfolding_all exact run_dropS_0
end
end Z
set_option Elab.async false
set_option linter.all false
set_option maxRecDepth 100000
set_option maxHeartbeats 2000000
namespace L2
open PySem PySem.Spec PyProof.Rows
end L2
namespace Z
open PySem L2
def noF (f : Str) : List (D × D) → Bool
  | [] => true
  | (.str g, _) :: r => !decide (g = f) && noF f r
  | _ :: r => noF f r
def oneF (f : Str) : List (D × D) → Bool
  | [] => true
  | (.str g, _) :: r => if g = f then noF f r else oneF f r
  | _ :: r => oneF f r
def putAllD : List (D × D) → List (D × D) → List (D × D)
  | [], l => l
  | (.str f, x) :: r, l => putAllD r (putDF f x l)
  | _ :: r, l => putAllD r l
def updOk : List (D × D) → List (D × D) → Bool
  | [], _ => true
  | (.str f, x) :: r, l => oneF f l && updOk r (putDF f x l)
  | _ :: _, _ => false
def restD : D → Option (List (D × D))
  | .dict (_ :: l) => some l
  | _ => none
def updD (l : List (D × D)) : D → Option D
  | .dict (h :: es) => if updOk l es && decide (es.length + l.length ≤ 1000) then some (.dict (h :: putAllD l es)) else none
  | _ => none
def sRecUpd (i : Nat) (m : M D) : MS := fun s => match look s i with
  | some _ => match m s with
    | .ok d s1 => match restD d with
      | some l => match (look s1 i).bind (updD l) with
        | some d2 => .nx (s1.set i (some d2))
        | none => .no
      | none => .no
    | .no => .no
  | none => .no
section
variable {K : Fg} {c : Ctx} {O Ob : List Kd} {te : TE} {m : M D}
end
section
variable {s : DS} {Nx Bk Ct : DS → Prop} {Ex : Xc → DS → Prop} {Rt : D → DS → Prop}
theorem run_recUpd_0 {i : Nat} {m : M D} : Run0 (sRecUpd i m) s Nx Rt Bk Ct Ex = So0 (look s i) fun _ => Ev0 m s fun d s1 => So0 (restD d) fun l => So0 (look s1 i) fun d0 => So0 (updD l d0) fun d2 => Nx (s1.set i (some d2)) := by
  unfold Run0 sRecUpd Ev0
  cases look s i with
  | none => rfl
  | some d0 =>
    dsimp only [So0]
    cases m s with
    | no => rfl
    | ok d s1 =>
      dsimp only
      cases restD d with
      | none => rfl
      | some l =>
        dsimp only
        cases look s1 i with
        | none => rfl
        | some d0 =>
          dsimp only [Option.bind]
          cases updD l d0 <;> rfl
theorem run_recUpd {i : Nat} {m : M D} : Run (sRecUpd i m) s Nx Rt Bk Ct Ex = So (look s i) fun _ => Ev m s fun d s1 => So (restD d) fun l => So (look s1 i) fun d0 => So (updD l d0) fun d2 => Nx (s1.set i (some d2)) := by with_unfolding_all exact run_recUpd_0
end
end Z
set_option Elab.async false
set_option linter.all false
set_option maxRecDepth 100000
set_option maxHeartbeats 2000000
namespace L2
open PySem PySem.Spec PyProof.Rows
end L2
namespace Z
open PySem L2
def isEmp : D → Option Bool
  | .list xs => some xs.isEmpty
  | _ => none
def mEqE (mr : M D) : M D := bnd mr fun d => opt ((isEmp d).map .bool)
def mNeE (mr : M D) : M D := bnd mr fun d => opt ((isEmp d).map fun b => .bool (!b))
section
variable {K : Fg} {c : Ctx} {O : List Kd} {te : TE} {mr : M D} {k : Kd}
end
section
variable {s : DS} {Q : D → DS → Prop}
theorem ev_eqE_0 {mr : M D} : Ev0 (mEqE mr) s Q = Ev0 mr s fun d s' => So0 (lof d) fun xs => Q (.bool xs.isEmpty) s' := by
  unfold mEqE
  rw [ev_bnd_0]
  refine ev_ext_0 fun d s' => ?_
  cases d <;> rfl
theorem ev_eqE {mr : M D} : Ev (mEqE mr) s Q = Ev mr s fun d s' => So (lof d) fun xs => Q (.bool xs.isEmpty) s' := by with_unfolding_all exact ev_eqE_0
theorem ev_neE_0 {mr : M D} : Ev0 (mNeE mr) s Q = Ev0 mr s fun d s' => So0 (lof d) fun xs => Q (.bool (!xs.isEmpty)) s' := by
  unfold mNeE
  rw [ev_bnd_0]
  refine ev_ext_0 fun d s' => ?_
  cases d <;> rfl
theorem ev_neE {mr : M D} : Ev (mNeE mr) s Q = Ev mr s fun d s' => So (lof d) fun xs => Q (.bool (!xs.isEmpty)) s' := by with_unfolding_all exact ev_neE_0
end
end Z
set_option Elab.async false
set_option linter.all false
set_option maxRecDepth 100000
set_option maxHeartbeats 2000000
namespace Z
open PySem L2
end Z
set_option Elab.async false
set_option linter.all false
set_option maxRecDepth 100000
set_option maxHeartbeats 2000000
namespace Z
open PySem L2
def sAppN (m mv : M D) : MS := fun s => match m s with
  | .ok d s1 => match lof d with
    | some xs => match mv s1 with
      | .ok _ s2 => if decide (xs.length < sizeLine) = true then .nx s2 else .no
      | .no => .no
    | none => .no
  | .no => .no
section
variable {s : DS} {Nx Bk Ct : DS → Prop} {Ex : Xc → DS → Prop} {Rt : D → DS → Prop}
theorem run_appN_0 {m mv : M D} : Run0 (sAppN m mv) s Nx Rt Bk Ct Ex = Ev0 m s fun d s1 => So0 (lof d) fun xs => Ev0 mv s1 fun _ s2 => decide (xs.length < sizeLine) = true ∧ Nx s2 := by
  unfold Run0 sAppN Ev0
  cases m s with
  | no => rfl
  | ok d s1 =>
    dsimp only
    cases lof d with
    | none => rfl
    | some xs =>
      dsimp only [So0]
      cases mv s1 with
      | no => rfl
      | ok x s2 =>
        dsimp only
        cases decide (xs.length < sizeLine) <;> simp
theorem run_appN {m mv : M D} : Run (sAppN m mv) s Nx Rt Bk Ct Ex = Ev m s fun d s1 => So (lof d) fun xs => Ev mv s1 fun _ s2 => decide (xs.length < sizeLine) = true ∧ Nx s2 := by with_unfolding_all exact run_appN_0
end
end Z
set_option Elab.async false
set_option linter.all false
set_option maxRecDepth 100000
set_option maxHeartbeats 2000000
namespace Z
open PySem L2
def sPar (i j : Nat) (ml : M (List D)) : MS := fun s => match ml s with
  | .ok es s1 => match es with
    | [x, y] => .nx ((s1.set i (some x)).set j (some y))
    | _ => .no
  | .no => .no
def sPar3 (i j l : Nat) (ml : M (List D)) : MS := fun s => match ml s with
  | .ok es s1 => match es with
    | [x, y, z] => .nx (((s1.set i (some x)).set j (some y)).set l (some z))
    | _ => .no
  | .no => .no
section
variable {K : Fg} {c : Ctx} {O Ob : List Kd} {ta : TA} {ml : M (List D)}
end
section
variable {s : DS} {Nx Bk Ct : DS → Prop} {Ex : Xc → DS → Prop} {Rt : D → DS → Prop}
def two2 : List D → Option (D × D)
  | [x, y] => some (x, y)
  | _ => none
def three3 : List D → Option (D × D × D)
  | [x, y, z] => some (x, y, z)
  | _ => none
theorem run_par_0 {i j : Nat} {ml : M (List D)} : Run0 (sPar i j ml) s Nx Rt Bk Ct Ex = Ev0 ml s fun es s1 => So0 (two2 es) fun p => Nx ((s1.set i (some p.1)).set j (some p.2)) := by
  unfold Run0 sPar Ev0
  cases ml s with
  | no => rfl
  | ok es s1 =>
    dsimp only
    rcases es with _ | ⟨x, _ | ⟨y, _ | ⟨z, r⟩⟩⟩ <;> rfl
theorem run_par {i j : Nat} {ml : M (List D)} : Run (sPar i j ml) s Nx Rt Bk Ct Ex = Ev ml s fun es s1 => So (two2 es) fun p => Nx ((s1.set i (some p.1)).set j (some p.2)) := by with_unfolding_all exact run_par_0
theorem run_par3_0 {i j l : Nat} {ml : M (List D)} : Run0 (sPar3 i j l ml) s Nx Rt Bk Ct Ex = Ev0 ml s fun es s1 => So0 (three3 es) fun p => Nx (((s1.set i (some p.1)).set j (some p.2.1)).set l (some p.2.2)) := by
  unfold Run0 sPar3 Ev0
  cases ml s with
  | no => rfl
  | ok es s1 =>
    dsimp only
    rcases es with _ | ⟨x, _ | ⟨y, _ | ⟨z, _ | ⟨w, r⟩⟩⟩⟩ <;> rfl
theorem run_par3 {i j l : Nat} {ml : M (List D)} : Run (sPar3 i j l ml) s Nx Rt Bk Ct Ex = Ev ml s fun es s1 => So (three3 es) fun p => Nx (((s1.set i (some p.1)).set j (some p.2.1)).set l (some p.2.2)) := by with_unfolding_all exact run_par3_0
end
end Z
set_option Elab.async false
set_option linter.all false
set_option maxRecDepth 100000
set_option maxHeartbeats 2000000
namespace Z
open PySem L2
section
variable {f g : Str} {x y : D} {h : D × D} {l es r : List (D × D)} {Q : List (D × D) → Prop} {P : D → Prop}
theorem so_restD : So (restD (.dict (h :: l))) Q = Q l := so_some
theorem updD_0 : So0 (updD l (.dict (h :: es))) P = ((updOk l es && decide (es.length + l.length ≤ 1000)) = true ∧ P (.dict (h :: putAllD l es))) := by
  have e : updD l (.dict (h :: es)) = if (updOk l es && decide (es.length + l.length ≤ 1000)) = true then some (.dict (h :: putAllD l es)) else none := rfl
  rw [e]
  by_cases z : (updOk l es && decide (es.length + l.length ≤ 1000)) = true
  · rw [if_pos z]
    exact propext ⟨fun q => ⟨z, q⟩, fun q => q.2⟩
  · rw [if_neg z]
    exact propext ⟨fun q => q.elim, fun q => absurd q.1 z⟩
theorem so_updD : So (updD l (.dict (h :: es))) P = ((updOk l es && decide (es.length + l.length ≤ 1000)) = true ∧ P (.dict (h :: putAllD l es))) := by with_unfolding_all exact updD_0
theorem uk0 : updOk [] l = true := nr rfl
theorem ukC : updOk ((.str f, x) :: r) l = (oneF f l && updOk r (putDF f x l)) := nr rfl
theorem one0 : oneF f [] = true := nr rfl
theorem oneE : oneF f ((.str f, x) :: r) = noF f r := if_pos rfl
theorem oneO (h : (g = f) = False) : oneF f ((.str g, x) :: r) = oneF f r := if_neg (by rw [h]; exact id)
theorem no0 : noF f [] = true := nr rfl
theorem noO (h : (g = f) = False) : noF f ((.str g, x) :: r) = noF f r := by
  have : ¬ g = f := by rw [h]; exact id
  show (!decide (g = f) && noF f r) = noF f r
  rw [decide_eq_false this]; rfl
theorem pa0 : putAllD [] l = l := nr rfl
theorem paC : putAllD ((.str f, x) :: r) l = putAllD r (putDF f x l) := nr rfl
end
section
variable {x y z : D} {P : D × D → Prop} {P3 : D × D × D → Prop}
theorem so_two2 : So (two2 [x, y]) P = P (x, y) := so_some
theorem so_three3 : So (three3 [x, y, z]) P3 = P3 (x, y, z) := so_some
theorem p1_eq {α β : Type} {a : α} {b : β} : (a, b).1 = a := nr rfl
theorem p2_eq {α β : Type} {a : α} {b : β} : (a, b).2 = b := nr rfl
end
end Z
set_option Elab.async false
set_option linter.all false
set_option maxRecDepth 100000
set_option maxHeartbeats 2000000
namespace Z
open PySem L2
def cPin (c : Ctx) (j : Nat) (W : Kd) (a : Addr) (T : List Addr) : Ctx := { c with ow := fun l q => c.ow l q ∨ (l = j ∧ q ∈ T), pk := fun l => if l = j then some W else c.pk l, arg := fun l => if l = j then .ref a else c.arg l, ps := (c.ps.1, j :: c.ps.2) }
theorem set_id {α : Type} {l : List α} {i : Nat} {x : α} (h : l[i]? = some x) : l.set i x = l := by
  apply List.ext_getElem?
  intro m
  by_cases z : m = i
  · subst z; rw [List.getElem?_set_self (List.getElem?_eq_some_iff.mp h).1, h]
  · rw [List.getElem?_set_ne (Ne.symm z)]
section
variable {K : Fg} {c : Ctx} {O : List Kd} {F H : Hp} {σ : St} {fps : Nat → List Addr} {ds : DS} {i j : Nat} {k W : Kd} {a : Addr} {T : List Addr} {π : List Sel}
theorem Rel.put' (r : Rel K c O F H σ fps ds) {v : V} {d : D} {fpv : List Addr} (hi : O[i]? = some k) {k' : Kd} (hp : isPm (some k) = false) (hv : σ[i]? = some (some v)) (ho : Ow K F H k' v d fpv)
    (hf : ∀ q ∈ fpv, F q = none ∧ H q ≠ none ∧ c.H0 q = none ∧ ∀ j, j ≠ i → q ∉ fps j) (nd : fpv.Nodup) : Rel K c (O.set i k') F H σ (fun j => if j = i then fpv else fps j) (ds.set i (some d)) := by
  have r1 := r.put (i := i) (k := k') (v := v) (d := d) (fpv := fpv) (List.getElem?_eq_some_iff.mp hi).1 (by rw [hi]; exact hp) ho hf nd
  rw [set_id hv] at r1
  exact r1
theorem Rel.offN (r : Rel K c O F H σ fps ds) (hi : O[i]? = some k) (hp : isPm (some k) = false) : ∀ q ∈ fps i, F q = none ∧ H q ≠ none ∧ c.H0 q = none := fun q hq => by
  obtain ⟨h1, h2, h3⟩ := r.off i q hq
  refine ⟨h1, h2, ?_⟩
  rcases h3 with h | ⟨_, h⟩
  · exact h
  · rw [hi, hp] at h; cases h
theorem Rel.pin {e : D} (r : Rel K c O F H σ fps ds) (hj : j < O.length) (hjs : j < ds.length) (hT : ∀ q ∈ T, F q = none ∧ H q ≠ none ∧ ∀ l, q ∉ fps l) (nd : T.Nodup) (ow : Ow K F H W (.ref a) e T) :
    Rel K (cPin c j W a T) (O.set j (.pm W)) F H (σ.set j (some (.ref a))) (fun l => if l = j then T else fps l) (ds.set j (some e)) := by
  have hjσ : j < σ.length := by rw [r.len]; exact hjs
  refine ⟨r.sub, r.base, fun b o h hn => r.keep b o h fun ⟨l, hl⟩ => hn ⟨l, .inl hl⟩, r.live, r.new, fun m x hm => ?_, fun m q hq => ?_, fun m => ?_, fun m m' hmm q hq hq' => ?_, fun m k0 hk0 => ?_, by rw [List.length_set, List.length_set]; exact r.len⟩
  · rcases set_get hm with ⟨rfl, hx⟩ | ⟨z, hm⟩
    · cases hx
      refine ⟨.ref a, List.getElem?_set_self hjσ, ?_⟩
      rw [List.getD_eq_getElem?_getD, List.getElem?_set_self hj, if_pos rfl]
      exact ow
    · obtain ⟨w, hw, o⟩ := r.slots m x hm
      refine ⟨w, by rw [List.getElem?_set_ne (Ne.symm z)]; exact hw, ?_⟩
      rw [getD_set z, if_neg z]
      exact o
  · by_cases z : m = j
    · subst z
      rw [if_pos rfl] at hq
      obtain ⟨h1, h2, _⟩ := hT q hq
      exact ⟨h1, h2, .inr ⟨.inr ⟨rfl, hq⟩, by rw [List.getElem?_set_self hj]; rfl⟩⟩
    · rw [if_neg z] at hq
      obtain ⟨h1, h2, h3⟩ := r.off m q hq
      refine ⟨h1, h2, h3.imp id fun h => ⟨.inl h.1, ?_⟩⟩
      rw [List.getElem?_set_ne (Ne.symm z)]
      exact h.2
  · show (if m = j then T else fps m).Nodup
    split
    · exact nd
    · exact r.nd m
  · by_cases z : m = j
    · subst z
      rw [if_pos rfl] at hq
      rw [if_neg (Ne.symm hmm)] at hq'
      exact (hT q hq).2.2 m' hq'
    · rw [if_neg z] at hq
      by_cases y : m' = j
      · subst y
        rw [if_pos rfl] at hq'
        exact (hT q hq').2.2 m hq
      · rw [if_neg y] at hq'
        exact r.dj m m' hmm q hq hq'
  · have hk0 : (if m = j then some W else c.pk m) = some k0 := hk0
    show (∃ k', (O.set j (.pm W))[m]? = some (.pm k') ∧ _) ∧ _ = some (some (if m = j then V.ref a else c.arg m))
    by_cases z : m = j
    · subst z
      rw [if_pos rfl] at hk0 ⊢
      cases hk0
      exact ⟨⟨W, List.getElem?_set_self hj, .inl rfl⟩, List.getElem?_set_self hjσ⟩
    · rw [if_neg z] at hk0 ⊢
      rw [List.getElem?_set_ne (Ne.symm z), List.getElem?_set_ne (Ne.symm z)]
      exact r.par m k0 hk0
theorem Rel.unpin (r : Rel K (cPin c j W a T) O F H σ fps ds) (hpj : c.pk j = none) (hoj : ∀ q, ¬ c.ow j q) (hT : ∀ q ∈ T, c.H0 q = none) : Rel K c (O.set j .sh) F H σ (asd fps j) (ds.set j none) := by
  refine ⟨r.sub, r.base, fun b o h hno => r.keep b o h fun ⟨l, hl⟩ => ?_, r.live, r.new, fun m x hm => ?_, fun m q hq => ?_, fun m => ?_, fun m m' hmm q hq hq' => r.dj m m' hmm q (asd_sub hq).2 (asd_sub hq').2, fun m k0 hk0 => ?_, by rw [List.length_set]; exact r.len⟩
  · rcases hl with hl | ⟨_, hl⟩
    · exact hno ⟨l, hl⟩
    · have h : c.H0 b = some o := h
      rw [hT b hl] at h; cases h
  · rcases set_get hm with ⟨rfl, h⟩ | ⟨y, hm⟩
    · cases h
    · obtain ⟨w, hw, o⟩ := r.slots m x hm
      refine ⟨w, hw, ?_⟩
      rw [getD_set y]
      have : asd fps j m = fps m := if_neg y
      rw [this]
      exact o
  · obtain ⟨z, hq⟩ := asd_sub hq
    obtain ⟨h1, h2, h3⟩ := r.off m q hq
    refine ⟨h1, h2, ?_⟩
    rcases h3 with h | ⟨h | ⟨h, _⟩, h'⟩
    · exact .inl h
    · exact .inr ⟨h, by rw [List.getElem?_set_ne (Ne.symm z)]; exact h'⟩
    · exact absurd h z
  · unfold asd
    split
    · exact List.nodup_nil
    · exact r.nd m
  · have z : m ≠ j := fun z => by rw [z, hpj] at hk0; cases hk0
    have pkm : (cPin c j W a T).pk m = some k0 := by
      show (if m = j then some W else c.pk m) = some k0
      rw [if_neg z]; exact hk0
    obtain ⟨h1, h2⟩ := r.par m k0 pkm
    rw [List.getElem?_set_ne (Ne.symm z)]
    refine ⟨h1, ?_⟩
    rw [h2]
    show some (some (if m = j then V.ref a else c.arg m)) = _
    rw [if_neg z]
theorem Rel.fillG {d e x d2 : D} {kh : Kd} (r : Rel K (cPin c j W a T) O F H σ fps ds) (hij : i ≠ j) (hd : ds[i]? = some (some d)) (he : ds[j]? = some (some e)) (hOi : O[i]? = some kh) (hpm : isPm (some kh) = false) (hk : kdP π kh = some (.hx a W)) (hW : isSt W = true)
    (hg : getP π d = some x) (hx : isHole x = true) (hp : setP π d e = some d2) (hpj : c.pk j = none) (hhx : c.hx = false) (hoj : ∀ q, ¬ c.ow j q) (hT : ∀ q ∈ T, c.H0 q = none) :
    ∃ fps2, Rel K c (O.set j .sh) F H σ fps2 ((ds.set j none).set i (some d2)) := by
  have hx := isHole_eq hx
  subst hx
  obtain ⟨⟨kj, hOj, hkj⟩, hσj⟩ := r.par j W (if_pos rfl)
  have hhx' : (cPin c j W a T).hx = false := hhx
  obtain rfl : kj = W := by
    rcases hkj with h | ⟨h, _⟩
    · exact h
    · rw [hhx'] at h; cases h
  have hσj : σ[j]? = some (some (.ref a)) := by
    rw [hσj]
    show some (some (if j = j then V.ref a else c.arg j)) = _
    rw [if_pos rfl]
  obtain ⟨v, hv, ow⟩ := r.slots i d hd
  rw [List.getD_eq_getElem?_getD, hOi] at ow
  have ow : Ow K F H kh v d (fps i) := ow
  obtain ⟨vj, hvj, owj⟩ := r.slots j e he
  rw [List.getD_eq_getElem?_getD, hOj] at owj
  rw [hσj] at hvj
  cases hvj
  have owj : Ow K F H kj (.ref a) e (fps j) := owj
  obtain ⟨u, T', vp, _, oe, _, _, wand⟩ := ow_path ow hk hg (r.nd i)
  obtain ⟨rfl, rfl⟩ : u = .ref a ∧ T' = [] := by
    rcases oe with ⟨h1, _, h2⟩ | h
    · exact ⟨h1, h2⟩
    · have := st_hole hW h
      cases this
  obtain ⟨fp3, d3, e3, ow3, nd3, sub3⟩ := wand F H e (fps j) (Same.refl _) (fun _ _ _ => rfl) (.inr owj) (fun q hq hq' => absurd hq (r.dj i j hij q hq')) (r.nd j)
  rw [hp] at e3
  cases e3
  have r1 := r.unpin hpj hoj hT
  have hOi1 : (O.set j .sh)[i]? = some kh := by rw [List.getElem?_set_ne (Ne.symm hij)]; exact hOi
  have h0 : ∀ q ∈ fp3, F q = none ∧ H q ≠ none ∧ c.H0 q = none ∧ ∀ m, m ≠ i → q ∉ asd fps j m := fun q hq => by
    rcases sub3 q hq with h | ⟨h, _⟩
    · obtain ⟨h1, h2, h3⟩ := r.off j q h
      refine ⟨h1, h2, ?_, fun m hm hq' => ?_⟩
      · rcases h3 with h | ⟨h | ⟨_, h⟩, _⟩
        · exact h
        · exact absurd h (hoj q)
        · exact hT q h
      · obtain ⟨y, hq'⟩ := asd_sub hq'
        exact r.dj j m (Ne.symm y) q h hq'
    · have hq2 : q ∈ asd fps j i := by
        have : asd fps j i = fps i := if_neg hij
        rw [this]; exact h
      obtain ⟨h1, h2, h3⟩ := r1.offN hOi1 hpm q hq2
      exact ⟨h1, h2, h3, fun m hm hq' => r1.dj i m (Ne.symm hm) q hq2 hq'⟩
  have r2 := r1.put' (k' := kh) hOi1 hpm hv ow3 h0 nd3
  rw [set_id hOi1] at r2
  exact ⟨_, r2⟩
end
def noH2e : D → Bool
  | .tuple [p, q] => !isHole p && !isHole q
  | _ => true
section
variable {K : Fg} {F H : Hp} {A B : Kd} {a b : Addr}
end
end Z
set_option Elab.async false
set_option linter.all false
set_option maxRecDepth 100000
set_option maxHeartbeats 2000000
namespace Z
open PySem L2
def fill2 (i j1 j2 n : Nat) (s : DS) : Option DS := match s[i]?, s[j1]?, s[j2]? with
  | some (some (.list xs)), some (some e1), some (some e2) => match xs[n]? with
    | some (.tuple [x1, x2]) => if (isHole x1 && isHole x2) && (xs.set n (.tuple [e1, e2])).all noH2e then some (((s.set j2 none).set j1 none).set i (some (.list (xs.set n (.tuple [e1, e2]))))) else none
    | _ => none
  | _, _, _ => none
def gone3 (i j1 j2 : Nat) (s : DS) : DS := ((s.set j2 none).set j1 none).set i none
def fillR2 (i j1 j2 n : Nat) : RS → RS
  | .nx s => match fill2 i j1 j2 n s with
    | some s' => .nx s'
    | none => .no
  | .rt d s => .rt d (gone3 i j1 j2 s)
  | .ex x s => .ex x (gone3 i j1 j2 s)
  | _ => .no
def sHole2 (i j1 j2 : Nat) (me : M D) (b : MS) : MS := fun s => match look s i with
  | none => .no
  | some _ => match me s with
    | .ok (.int z) s1 => match s1[i]? with
      | some (some (.list xs)) => match ixN xs.length z with
        | some n => match xs[n]? with
          | some (.tuple [e1, e2]) => if decide (j1 < s1.length) && decide (j2 < s1.length) then fillR2 i j1 j2 n (b (((s1.set i (some (.list (xs.set n (.tuple [holeD, holeD]))))).set j1 (some e1)).set j2 (some e2))) else .no
          | _ => .no
        | none => .no
      | _ => .no
    | _ => .no
section
variable {K : Fg} {c : Ctx} {Ob O : List Kd}
end
end Z
set_option Elab.async false
set_option linter.all false
set_option maxRecDepth 100000
set_option maxHeartbeats 2000000
namespace Z
open PySem L2
def mIxTQ (n : Nat) (m : M D) : M D := bnd m fun d => opt (match d with | .tuple xs => xs[n]? | _ => none)
section
variable {K : Fg} {c : Ctx} {O : List Kd}
end
section
variable {K : Fg} {c : Ctx} {O : List Kd}
end
end Z
set_option Elab.async false
set_option linter.all false
set_option maxRecDepth 100000
set_option maxHeartbeats 2000000
namespace Z
open PySem L2
def pairOf : D → Option (D × D)
  | .tuple [a, b] => some (a, b)
  | _ => none
section
variable {s : DS} {Nx Bk Ct : DS → Prop} {Ex : Xc → DS → Prop} {Rt : D → DS → Prop} {P : D × D → Prop} {x y : D}
theorem so_pairOf : So (pairOf (.tuple [x, y])) P = P (x, y) := so_some
theorem gone3_eq {i j1 j2 : Nat} : gone3 i j1 j2 s = ((s.set j2 none).set j1 none).set i none := nr rfl
theorem so_fill2_0 {i j1 j2 n : Nat} {Q : DS → Prop} : So0 (fill2 i j1 j2 n s) Q = So0 (look s i) fun d => So0 (lof d) fun xs => So0 (look s j1) fun e1 => So0 (look s j2) fun e2 => So0 (xs[n]?) fun t => So0 (pairOf t) fun p =>
    ((isHole p.1 && isHole p.2) && (xs.set n (.tuple [e1, e2])).all noH2e) = true ∧ Q (((s.set j2 none).set j1 none).set i (some (.list (xs.set n (.tuple [e1, e2]))))) := by
  unfold fill2 look
  cases s[i]? with
  | none => rfl
  | some o =>
    cases o with
    | none => rfl
    | some d =>
      cases d with
      | list xs =>
        cases s[j1]? with
        | none => rfl
        | some o1 =>
          cases o1 with
          | none => rfl
          | some e1 =>
            cases s[j2]? with
            | none => rfl
            | some o2 =>
              cases o2 with
              | none => rfl
              | some e2 =>
                dsimp only [So0, lof]
                cases xs[n]? with
                | none => rfl
                | some t =>
                  cases t with
                  | tuple l =>
                    rcases l with _ | ⟨a, _ | ⟨b, _ | ⟨c, l⟩⟩⟩
                    · rfl
                    · rfl
                    · dsimp only [pairOf, So0]
                      cases ((isHole a && isHole b) && (xs.set n (.tuple [e1, e2])).all noH2e) <;> simp
                    · rfl
                  | _ => rfl
      | _ => rfl
theorem so_fill2 {i j1 j2 n : Nat} {Q : DS → Prop} : So (fill2 i j1 j2 n s) Q = So (look s i) fun d => So (lof d) fun xs => So (look s j1) fun e1 => So (look s j2) fun e2 => So (xs[n]?) fun t => So (pairOf t) fun p =>
    ((isHole p.1 && isHole p.2) && (xs.set n (.tuple [e1, e2])).all noH2e) = true ∧ Q (((s.set j2 none).set j1 none).set i (some (.list (xs.set n (.tuple [e1, e2]))))) := by with_unfolding_all exact so_fill2_0
theorem run_hole2_0 {i j1 j2 : Nat} {me : M D} {b : MS} : Run0 (sHole2 i j1 j2 me b) s Nx Rt Bk Ct Ex = So0 (look s i) fun _ => Ev0 me s fun z s1 => So0 (iof z) fun z => So0 (look s1 i) fun d => So0 (lof d) fun xs => So0 (ixN xs.length z) fun n => So0 (xs[n]?) fun e => So0 (pairOf e) fun p =>
    (decide (j1 < s1.length) && decide (j2 < s1.length)) = true ∧ Run0 b (((s1.set i (some (.list (xs.set n (.tuple [holeD, holeD]))))).set j1 (some p.1)).set j2 (some p.2)) (fun s' => So0 (fill2 i j1 j2 n s') Nx) (fun d s' => Rt d (gone3 i j1 j2 s')) (fun _ => False) (fun _ => False) (fun x s' => Ex x (gone3 i j1 j2 s')) := by
  unfold Run0 sHole2
  cases look s i with
  | none => rfl
  | some d0 =>
    dsimp only [So0, Ev0]
    cases me s with
    | no => rfl
    | ok z s1 =>
      cases z with
      | int z =>
        dsimp only [iof, look]
        cases s1[i]? with
        | none => rfl
        | some o =>
          cases o with
          | none => rfl
          | some d =>
            cases d with
            | list xs =>
              dsimp only [lof]
              cases ixN xs.length z with
              | none => rfl
              | some n =>
                dsimp only
                cases xs[n]? with
                | none => rfl
                | some t =>
                  cases t with
                  | tuple l =>
                    rcases l with _ | ⟨a, _ | ⟨b', _ | ⟨c, l⟩⟩⟩
                    · rfl
                    · rfl
                    · dsimp only [pairOf]
                      cases decide (j1 < s1.length) && decide (j2 < s1.length) with
                      | false => simp
                      | true =>
                        simp only [if_true, true_and]
                        unfold fillR2
                        cases b (((s1.set i (some (.list (xs.set n (.tuple [holeD, holeD]))))).set j1 (some a)).set j2 (some b')) with
                        | nx s' => dsimp only; cases fill2 i j1 j2 n s' <;> rfl
                        | rt d s' => rfl
                        | ex x s' => rfl
                        | bk s' => rfl
                        | ct s' => rfl
                        | no => rfl
                    · rfl
                  | _ => rfl
            | _ => rfl
      | _ => rfl
theorem run_hole2 {i j1 j2 : Nat} {me : M D} {b : MS} : Run (sHole2 i j1 j2 me b) s Nx Rt Bk Ct Ex = So (look s i) fun _ => Ev me s fun z s1 => So (iof z) fun z => So (look s1 i) fun d => So (lof d) fun xs => So (ixN xs.length z) fun n => So (xs[n]?) fun e => So (pairOf e) fun p =>
    (decide (j1 < s1.length) && decide (j2 < s1.length)) = true ∧ Run b (((s1.set i (some (.list (xs.set n (.tuple [holeD, holeD]))))).set j1 (some p.1)).set j2 (some p.2)) (fun s' => So (fill2 i j1 j2 n s') Nx) (fun d s' => Rt d (gone3 i j1 j2 s')) (fun _ => False) (fun _ => False) (fun x s' => Ex x (gone3 i j1 j2 s')) := by with_unfolding_all exact run_hole2_0
theorem ev_ixTQ_0 {n : Nat} {m : M D} {Q : D → DS → Prop} : Ev0 (mIxTQ n m) s Q = Ev0 m s fun d s1 => So0 (tof d) fun xs => So0 (xs[n]?) fun x => Q x s1 := by
  unfold mIxTQ
  rw [ev_bnd_0]
  refine ev_ext_0 fun d s1 => ?_
  rw [ev_opt_0]
  cases d with
  | tuple xs => rfl
  | _ => rfl
theorem ev_ixTQ {n : Nat} {m : M D} {Q : D → DS → Prop} : Ev (mIxTQ n m) s Q = Ev m s fun d s1 => So (tof d) fun xs => So (xs[n]?) fun x => Q x s1 := by with_unfolding_all exact ev_ixTQ_0
end
end Z
set_option Elab.async false
set_option linter.all false
set_option maxRecDepth 100000
set_option maxHeartbeats 2000000
namespace ZC
open PySem PySem.Spec PyProof.Rows L2
theorem note_comp {x : Value} {scope : Scope} {cl : List (Str × Addr)} {C : Addr} {env : Env} : noteFrame x (compEnvC scope cl C env) = noteFrame x env := rfl
theorem frames_sub {base B h : Heap} (k : ∀ b, base.get? b = none → B.get? b = none) : ∀ {l : List Env}, h.FunFrames base l → h.FunFrames B l
  | [], _ => trivial
  | _ :: _, ⟨e1, ⟨L, o, e2, e3, e4, e5⟩, r⟩ => ⟨e1, ⟨L, o, e2, k L e3, e4, e5⟩, frames_sub k r⟩
section
variable {X : Cx} {W : WX} {pins : List (Addr × Obj)} {σ : L2.St} {H : Hp} {sI s2 : Shared} {B h3 h' : Heap} {a C : Addr} {cls : Value} {d : Option Addr} {m : Str → Option Value} {what : String} {cenv : Env}
theorem comp_pass (hs : X.stack = X.env :: X.outer) (hf : X.env.frame = some X.env.locals) (hcf : cenv.frame = X.env.frame) (tk : L2N.Takes X W) (I : Inv X pins σ H sI) (f : FpOk X pins H C)
    (nb : ∀ b o, sI.heap.get? b = some o → b ∉ frs X.stack → B.get? b = some o) (up : sI.heap.UpToSlots h3) (held : HandSPX.HeldZ B X.stack a (L2N.Zn cls d) X.env.locals h3) (hn : h3.Ns C m) (sb : Heap.SameBut C h3 h')
    (na : H a = none) (os : s2.os = sI.os) (ag : AllBare s2.gens) (w : W cls d σ H) : wpAny (model X.prog X.w) X.A (PySem.passOn what (.ref a) cenv : Sem Value) (fun _ _ => False) X.xe { s2 with heap := h' } := by
  obtain ⟨f1, f2, f3, oe, vs, T, oT, ts, he, hz, hd, h1, hnT, hTe, hT, hdT, hts⟩ := held
  obtain ⟨o, es, ep, hC, hCd, _⟩ := hn
  have aC : a ≠ C := fun z => by subst z; rw [he] at hC; cases hC; rw [hd] at hCd; cases hCd
  have TC : T ≠ C := fun z => by subst z; rw [hT] at hC; cases hC; rw [hdT] at hCd; cases hCd
  obtain ⟨B', b1, b2⟩ := restrict B fun b => decide (b ≠ C)
  obtain ⟨G, g1, g2⟩ := restrict sI.heap fun b => decide (b ≠ C)
  obtain ⟨c0, c1, c2, c3, c4, c5⟩ := f
  have Bne : ∀ {b : Addr} {o : Obj}, B'.get? b = some o → b ≠ C ∧ B.get? b = some o := fun {b o} e => by
    by_cases z : b = C
    · rw [b2 b (by simp [z])] at e; cases e
    · exact ⟨z, by rw [← b1 b (by simp [z])]; exact e⟩
  have Gne : ∀ {b : Addr} {o : Obj}, G.get? b = some o → b ≠ C ∧ sI.heap.get? b = some o := fun {b o} e => by
    by_cases z : b = C
    · rw [g2 b (by simp [z])] at e; cases e
    · exact ⟨z, by rw [← g1 b (by simp [z])]; exact e⟩
  have Bnone : ∀ b, B.get? b = none → B'.get? b = none := fun b e => by
    cases q : B'.get? b with
    | none => rfl
    | some o => have := (Bne q).2; rw [e] at this; cases this
  have CF : C ∉ frs X.stack := fun hm => by
    rcases List.mem_cons.mp (I.stkSub C hm) with z | z
    · exact c1 z
    · exact c2 z
  have k' : ∀ b o, b ≠ C → h3.get? b = some o → h'.get? b = some o := fun b o z e => (sb.2 b z).trans e
  have fr' : h'.FunFrames B' X.stack := by
    refine frames_sub Bnone ?_
    have key : ∀ {l : List Env}, (∀ b ∈ frs l, b ≠ C) → h3.FunFrames B l → h'.FunFrames B l := fun {l} => by
      induction l with
      | nil => exact fun _ _ => trivial
      | cons e l ih =>
        rintro hne ⟨e1, ⟨L, o, e2, e3, e4, e5⟩, r⟩
        exact ⟨e1, ⟨L, o, e2, e3, k' L o (hne L (List.mem_filterMap.mpr ⟨e, List.mem_cons_self, e2⟩)) e4, e5⟩, ih (fun b hb => by
          obtain ⟨e', he', q⟩ := List.mem_filterMap.mp hb
          exact hne b (List.mem_filterMap.mpr ⟨e', List.mem_cons_of_mem _ he', q⟩)) r⟩
    exact key (fun b hb z => CF (z ▸ hb)) f3
  have held' : HandSPX.HeldZ B' X.stack a (L2N.Zn cls d) X.env.locals h' := ⟨fun b o e => k' b o (Bne e).1 (f1 b o (Bne e).2), Bnone a f2, fr', oe, vs, T, oT, ts, k' a oe aC he, hz, hd, h1, Bnone T hnT, hTe, k' T oT TC hT, hdT, hts⟩
  unfold PySem.passOn
  refine wpAny_bind (wpAny_field (k' a oe aC he) hd h1 ?_)
  rw [if_neg (show ¬ ((Value.ref T == Value.none) = true) from by simp)]
  rw [hcf, hf]
  have fin : wpAny (model X.prog X.w) X.A (setFlight (.ref a) (some X.env.locals)) (fun _ s4 => wpAny (model X.prog X.w) X.A (throw (.ref a) : Sem Value) (fun _ _ => False) X.xe s4) X.xe { s2 with heap := h' } := by
    refine HandSPX.setFlight_onZ held' fun h4 hh4 up4 => wpAny_throw (tk _ _ ?_)
    refine ⟨a, B', { sI with heap := G }, pins, σ, H, cls, d, rfl, I.turned (t' := sI.toks) (it := C) (fun b o z e => by rw [g1 b (by simp [z])]; exact e) c0 c1 c3 c4 c5, fun b o e hb => ?_, ?_, .inr (.inr hh4), na, os, ag, w⟩
    · obtain ⟨z, e⟩ := Gne e
      rw [b1 b (by simp [z])]
      exact nb b o e hb
    · intro b o e hnf
      obtain ⟨z, e⟩ := Gne e
      obtain ⟨sl, q⟩ := up b o e hnf
      obtain ⟨sl2, q2⟩ := up4 b _ (k' b _ z q) hnf
      exact ⟨sl2, q2⟩
  first
  | exact wpAny_bind (wpAny_pure (wpAny_bind fin))
  | exact wpAny_bind fin
end
end ZC
namespace ZC
open PySem PySem.Spec PyProof.Rows L2
section
variable {M : Model} {A : Around} {E : Value → Shared → Prop} {Q : Value → Shared → Prop} {s : Shared} {env : Env}
def postX (M : Model) (A : Around) (E : Value → Shared → Prop) (Q : Value → Shared → Prop) (acc : Value) (C : Addr) (cenv : Env) : Result → Shared → Prop
  | .ok _, t => ∃ m, t.heap.Ns C m ∧ ∀ g, Heap.SameBut C t.heap g → Q acc { t with heap := g }
  | .error x, t => ∃ m, t.heap.Ns C m ∧ ∀ g, Heap.SameBut C t.heap g → wpAny M A (PySem.passOn "comprehension.variables-let-go" x cenv : Sem Value) (fun _ _ => False) E { t with heap := g }
theorem comp_value {e : Expr} {scope : Scope} {pos : Pos} {mkAcc first : Sem Value} {c : Comprehension} {cs : List Comprehension} {cl : List (Str × Addr)} (h1 : clausesOf e = c :: cs) (h2 : ∀ x, foldedSetIterable c.iter env x = pure x) (h3 : closureFor scope env = pure cl)
    (h4 : scope.kind = .function) (h5 : ∀ x ∈ scope.names, x.2 = .local → scope.names.lookup x.1 = some .local)
    (h : wpAny M A first (fun x t1 => wpAny M A (pyIter x) (fun it t2 => wpAny M A mkAcc (fun acc t3 => wpAny M A (newFunctionEnv scope env.globals cl [] env.qual none .none (some env)) (fun ce t4 =>
      codeAny M A (.compStart e 0 it acc { ce with scope := relabel scope env }) (postX M A E Q acc ce.locals { ce with scope := relabel scope env }) t4) E t3) E t2) E t1) E s) :
    wpAny M A (comprehension e scope env pos mkAcc false first none) Q E s := by
  unfold comprehension
  rw [h3, h1]
  refine wpAny_bind (wpAny_mono h (fun x t1 k1 => ?_) fun _ _ z => z)
  refine wpAny_bind (wpAny_standAt (wpAny_bind (wpAny_of_eq (h2 x) ?_)))
  refine wpAny_bind (wpAny_holding (wpAny_mono k1 (fun it t2 k2 => ?_) fun _ _ z => z))
  refine wpAny_standIf (wpAny_bind (wpAny_mono k2 (fun acc t3 k3 => ?_) fun _ _ z => z))
  refine wpAny_bind (wpAny_pure (wpAny_bind (wpAny_mono k3 (fun ce t4 k4 => ?_) fun _ _ z => z)))
  dsimp only
  have vis : ∀ x ∈ (scope.names.filter fun y => (y.2 == .local || y.2 == .cell) && y.1 != (".0" : Str)).reverse, x.2 = .local → Env.kindOf { ce with scope := relabel scope env } x.1 = some .local :=
    fun x hx hl => lookup_relabel_local (h5 x (List.mem_filter.mp (List.mem_reverse.mp hx)).1 hl)
  refine wpAny_holding (wpAny_bind (wpAny_attempt (wpAny_holding (wpAny_run (codeAny_mono k4 fun r t hr => ?_)))))
  cases r with
  | ok f =>
    obtain ⟨m, n1, n2⟩ := hr
    refine wpAny_bind (wpAny_holding (wpAny_comp_letGo (cenv := { ce with scope := relabel scope env }) h4 _ t m vis n1 fun g _ _ sb => ?_))
    exact wpAny_pure (n2 g sb)
  | error x =>
    obtain ⟨m, n1, n2⟩ := hr
    refine wpAny_bind (wpAny_holding (wpAny_comp_letGo (cenv := { ce with scope := relabel scope env }) h4 _ t m vis n1 fun g _ _ sb => ?_))
    exact wpAny_mono (n2 g sb) (fun _ _ z => z.elim) fun _ _ z => z
end
end ZC
namespace ZC
open PySem PySem.Spec PyProof.Rows L2
theorem of_callF {X : Cx} {pins : List (Addr × Obj)} {σ : L2.St} {H : Hp} {s t : Shared} {E : XK} {v : Value} (I : Inv X pins σ H s) (c : L2N.CX X.prog X.w X.stack H s E v t) :
    ∃ (a : Addr) (B : Heap) (sI : Shared) (K : Hp) (cls : Value) (d : Option Addr), v = .ref a ∧ Inv X pins σ K sI ∧ (∀ b o, sI.heap.get? b = some o → b ∉ frs X.stack → B.get? b = some o) ∧ sI.heap.UpToSlots t.heap ∧
      HandSPX.FlyingZ B X.stack a (L2N.Zn cls d) t.heap ∧ K a = none ∧ t.os = sI.os ∧ AllBare t.gens ∧ E cls d K := by
  obtain ⟨a, B, K, cls, d, rfl, fl, hok, ub, na, os, ag, hE⟩ := c
  obtain ⟨G, g1, g2⟩ := restrict t.heap fun b => (B.get? b).isSome || decide (b ∈ frs X.stack)
  have st : B.StaysIn t.heap := fl.1
  have inB : ∀ b o, B.get? b = some o → G.get? b = some o := fun b o e => (g1 b (by simp [e])).trans (st b o e)
  have inF : ∀ b, b ∈ frs X.stack → G.get? b = t.heap.get? b := fun b hb => g1 b (by simp [hb])
  have out : ∀ b o, G.get? b = some o → t.heap.get? b = some o ∧ ((B.get? b).isSome = true ∨ b ∈ frs X.stack) := fun b o e => by
    cases q : ((B.get? b).isSome || decide (b ∈ frs X.stack)) with
    | false => rw [g2 b q] at e; cases e
    | true => exact ⟨(g1 b q).symm.trans e, by simpa [Bool.or_eq_true] using q⟩
  refine ⟨a, B, { s with heap := G, gens := t.gens, drawn := t.drawn, toks := t.toks }, K, cls, d, rfl, ?_, fun b o e hb => ?_, Heap.UpToSlots.of_keeps fun b o e => (out b o e).1, fl, na, os, ag, hE⟩
  · refine I.call (ch := []) ⟨fun b o e n hb _ => inB b o (ub.keep b o e n hb), fun b o e n hb _ => ?_, fun b o e n _ => ub.free b o e n, fun b o e _ => ?_, ub.tups, ub.frzs, ub.tbls⟩ (hok.kept inB) ag (fun _ z => nomatch z)
    · obtain ⟨sl, q⟩ := ub.slot b o e hb
      exact ⟨sl, (inF b hb).trans q⟩
    · by_cases hb : b ∈ frs X.stack
      · obtain ⟨sl, q⟩ := ub.slot b o e hb
        exact ⟨_, (inF b hb).trans q⟩
      · obtain ⟨o', q⟩ := ub.there b o e hb
        exact ⟨o', inB b o' q⟩
  · obtain ⟨e', h | h⟩ := out b o e
    · obtain ⟨o', q⟩ := Option.isSome_iff_exists.mp h
      have z := st b o' q
      rw [e'] at z; cases z
      exact q
    · exact absurd h hb
abbrev blkX (X : Cx) (s : Shared) (H : Hp) (scope : Scope) (ce : Env) (fp : List Addr) (xe : Value → Shared → Prop) : Cx := { X.blk s H scope ce fp with xe := xe }
def tLcX (W : WX) (wi : TI) (g : TG) (tt : TT) (te : WX → TE) (vs : List Nat) : TE := fun σ H Q => tLc wi g tt (te fun cls d _ K => W cls d σ K) vs σ H Q
theorem pe_lcX {X : Cx} {W : WX} {elt tg iter : Expr} {ifs : List Expr} {scope : Scope} {own : List (Str × Nat)} {pos : Pos} {wi : TI} {g : TG} {tt : TT} {te : WX → TE} (hs : X.stack = X.env :: X.outer) (hf : X.env.frame = some X.env.locals) (tk : L2N.Takes X W) (hc : X.calm = true) (hN : X.N.Nodup)
    (hi : PI X tg iter wi) (ok : BlkOk X.N X.env.scope scope own)
    (hg : ∀ (s : Shared) (H : Hp) (C : Addr) (cl : List (Str × Addr)) (fp : List Addr), PG (X.blk s H scope (compEnvC scope cl C X.env) fp) tg g) (ht : ∀ (s : Shared) (H : Hp) (C : Addr) (cl : List (Str × Addr)) (fp : List Addr), PTs (X.blk s H scope (compEnvC scope cl C X.env) fp) ifs tt)
    (he : ∀ (s : Shared) (H : Hp) (C : Addr) (cl : List (Str × Addr)) (fp : List Addr) (xe : Value → Shared → Prop) (V : WX), (∀ σ2, PassesAt (L2N.CX X.prog X.w) (blkX X s H scope (compEnvC scope cl C X.env) fp xe) σ2 (WE V σ2)) → PE (blkX X s H scope (compEnvC scope cl C X.env) fp xe) elt (te V))
    (hx : ∀ x, foldedSetIterable iter X.env x = pure x := by intro _; rfl) : PE X (.ListComp elt [⟨tg, iter, ifs, 0⟩] scope pos) (tLcX W wi g tt te (own.map (·.2))) := by
  refine ⟨fun pins s σ H Q I h => ?_⟩
  rw [eval_ListComp]
  have free : ∀ y ∈ scope.names, y.2 = .free → ∃ c, X.env.cells.lookup y.1 = some c := fun y hy e => (ok.free y hy e).elim (fun k => I.ok.has _ (.inl k)) fun k => I.ok.has _ (.inr k)
  refine comp_value rfl hx (closure_ok free) ok.kind (fun y hy e => by rw [ok.uniq y hy, e]) (thn (hi.run pins s σ H _ I h) fun xv t1 k1 => thn k1 fun itv t2 k2 => ?_)
  obtain ⟨it, fp, tn, J, H2, rfl, I2, T, st2, f2, q⟩ := k2
  refine wpAny_newObj_type (newEnv_comp ?_) (by show 0 ≤ sizeLine; decide)
  generalize hD : t2.heap.objs.size = D
  have freshD : H2 D = none := I2.hok.fresh (Nat.le_of_eq hD)
  obtain ⟨V0, ⟨m0, w0⟩, turn⟩ := q D freshD
  generalize ht3 : ({ t2 with heap := t2.heap.push { cls := .type "list", data := .seq ([] : List Value).toArray } } : Shared) = t3
  have I3 : Inv X pins σ (upd H2 D (.lst [])) t3 := by
    subst ht3
    refine I2.laid (t' := t2.toks) (fun b o e => Heap.get?_push_of_some _ e) (Nat.le_of_eq hD) ⟨Nat.zero_le _, [], 0, .nil, ?_⟩
    subst hD
    exact Heap.get?_push_size _ rfl
  have h3 : t3.heap = t2.heap.push { cls := .type "list", data := .seq ([] : List Value).toArray } := by subst ht3; rfl
  have small : ∀ b ∈ fp, b < t2.heap.objs.size := fun b hb => by
    obtain ⟨o, e, _⟩ := T.obj _ _ st2 b hb
    exact Heap.lt_size e
  have f3 : ∀ b ∈ fp, FpOk X pins (upd H2 D (.lst [])) b ∧ b < t3.heap.objs.size := fun b hb => by
    have lt := small b hb
    exact ⟨⟨(upd_ne (by subst hD; exact Nat.ne_of_lt lt)).trans (f2 b hb).1, (f2 b hb).2⟩, by rw [h3, Heap.size_push]; exact Nat.lt_succ_of_lt lt⟩
  have st3 : tn 0 t3.heap := T.keep _ _ _ st2 fun b _ o e => by rw [h3]; exact Heap.get?_push_of_some _ e
  have I4 := block_start I3 ok hN f3
  show codeAny _ _ (.compStart (.ListComp elt [⟨tg, iter, ifs, 0⟩] scope pos) 0 (.ref it) (.ref D) (compEnvC scope (cellsFrom (t3.heap.objs.size + 1) scope.names (cloFrom X.env.cells scope.names [])) t3.heap.objs.size X.env)) (postX (model X.prog X.w) X.A X.xe (EP X pins σ Q) (.ref D) t3.heap.objs.size (compEnvC scope (cellsFrom (t3.heap.objs.size + 1) scope.names (cloFrom X.env.cells scope.names [])) t3.heap.objs.size X.env)) { t3 with heap := pushCells (t3.heap.push { cls := .type "dict", data := .dict #[] }) scope.names }
  generalize hcl : cellsFrom (t3.heap.objs.size + 1) scope.names (cloFrom X.env.cells scope.names []) = cl at I4 ⊢
  have pg := hg t3 (upd H2 D (.lst [])) t3.heap.objs.size cl fp
  have pt := ht t3 (upd H2 D (.lst [])) t3.heap.objs.size cl fp
  have pe := he t3 (upd H2 D (.lst [])) t3.heap.objs.size cl fp
  have hce0 : ∀ x, noteFrame x (compEnvC scope cl t3.heap.objs.size X.env) = noteFrame x X.env := fun x => note_comp
  have hcf : (compEnvC scope cl t3.heap.objs.size X.env).frame = X.env.frame := rfl
  have cL : (compEnvC scope cl t3.heap.objs.size X.env).locals = t3.heap.objs.size := rfl
  generalize compEnvC scope cl t3.heap.objs.size X.env = ce at I4 pg pt pe hce0 hcf cL ⊢
  have nfp : ∀ b ∈ fp, (upd H2 D (.lst [])) b = none := fun b hb => (f3 b hb).1.1
  generalize hH3 : upd H2 D (.lst []) = H3 at I3 I4 pg pt pe w0 nfp f3
  generalize ht4 : ({ t3 with heap := pushCells (t3.heap.push { cls := .type "dict", data := .dict #[] }) scope.names } : Shared) = t4 at I4 ⊢
  have st4 : tn 0 t4.heap := T.keep _ _ _ st3 fun b _ o e => by subst ht4; exact pushCells_keeps _ _ _ _ (Heap.get?_push_of_some _ e)
  have stat : ∀ {ρ : L2.St} {K : Hp} {t : Shared}, Inv (X.blk t3 H3 scope ce fp) [] ρ K t → (∀ b ∈ fp, K b = none) → ∀ b ∈ fp, FpOk (X.blk t3 H3 scope ce fp) [] K b := fun {ρ K t} I' hn b hb =>
    ⟨hn b hb, (I'.ok.exf b hb).1, I'.ok.exfs b hb, .inl hb, fun x c e => (I'.ok.exf b hb).2 x c e, fun p hp => absurd (show p ∈ ([] : List (Addr × Obj)) ++ [] from hp) (by simp)⟩
  -- the def's own state again
  have back : ∀ {pn : List (Addr × Obj)} {ρ : L2.St} {K : Hp} {t : Shared}, Inv (X.blk t3 H3 scope ce fp) pn ρ K t → Inv X pins σ K t ∧ FpOk X pins K t3.heap.objs.size ∧ ∃ m, t.heap.Ns t3.heap.objs.size m := fun {pn ρ K t} I' => by
    have nC : K t3.heap.objs.size = none := by
      have z : K ce.locals = none := I'.free
      rw [cL] at z; exact z
    obtain ⟨m, hn, _⟩ := I'.loc
    have hn : t.heap.Ns ce.locals m := hn
    rw [cL] at hn
    exact ⟨I3.call' (ch := fp) I'.os I'.base I'.hok I'.bare fun b hb => ⟨(f3 b hb).1.2.2.2.1, (f3 b hb).1.2.1, (f3 b hb).1.2.2.2.2.1, (f3 b hb).1.2.2.2.2.2⟩, I3.fpOk (Nat.le_refl _) nC, m, hn⟩
  -- what leaves the block
  have leaves : ∀ σ2, PassesAt (L2N.CX X.prog X.w) (blkX X t3 H3 scope ce fp (notedBy (model X.prog X.w) X.A ce fun e t => postX (model X.prog X.w) X.A X.xe (EP X pins σ Q) (.ref D) t3.heap.objs.size ce (.error e) t)) σ2 (WE (fun cls d _ K => W cls d σ K) σ2) := fun σ2 pn K t e t' I' c => by
    obtain ⟨a, B, sI, K', cls, d, rfl, J', nb, up, fl, na, os, ag, w⟩ := of_callF I' c
    have J'' : Inv (X.blk t3 H3 scope ce fp) pn σ2 K' sI := J'.wish fun _ _ => False
    obtain ⟨I7, fk, m, hn⟩ := back J''
    show wpAny _ X.A (noteFrame (.ref a) ce) _ _ t'
    rw [hce0]
    have hst : X.stack = X.env :: X.outer := hs
    have fl' : HandSPX.FlyingZ B (X.env :: X.outer) a (L2N.Zn cls d) t'.heap := by rw [← hst]; exact fl
    refine PXN.looks_onZ L2N.Zn.steady (by rw [I.ok.frames, hst]) hf fl' fun h5 held up5 => ?_
    have up6 := up.trans up5
    refine ⟨m, up6.ns hn, fun g5 sb => ?_⟩
    exact comp_pass (s2 := { t' with heap := h5 }) hst hf hcf tk I7 fk nb up6 (by rw [hst]; exact held) (up6.ns hn) sb na os ag w
  have loop : codeAny (model X.prog X.w) X.A (.compLoop (.ListComp elt [⟨tg, iter, ifs, 0⟩] scope pos) 0 (.ref it) (.ref D) ce) (postX (model X.prog X.w) X.A X.xe (EP X pins σ Q) (.ref D) t3.heap.objs.size ce) t4 := by
    refine compLoop_any (fun n t => ∃ i K, Inv (X.blk t3 H3 scope ce fp) [] (wipe σ (own.map (·.2))) K t ∧ tn i t.heap ∧ (∀ b ∈ fp, K b = none) ∧ V0 i n K) ?_ m0 ⟨0, H3, I4, st4, nfp, w0⟩
    rintro n t5 ⟨i, H5, I5, st5, n5, w5⟩
    rcases turn i n H5 w5 with ⟨stop, qq⟩ | ⟨go, Nx, hNx, step⟩
    · have td := T.done (X.blk t3 H3 scope ce fp) rfl rfl rfl hc i [] t5 _ H5 (fun _ _ => False) I5 (stat I5 n5) st5 stop
      refine thnF td fun r t6 ⟨hr, I6⟩ => ?_
      subst hr
      obtain ⟨I7, ⟨f0, f1, f2', f3', f4, f5⟩, m, hn⟩ := back I6
      exact ⟨m, hn, fun g6 sb => ⟨.ref D, H5, I7.turned (t' := t6.toks) (fun b o hb e => (sb.2 b hb).trans e) f0 f1 f3' f4 f5, rfl, qq⟩⟩
    · have ti := T.item (X.blk t3 H3 scope ce fp) rfl rfl rfl hc i [] t5 _ H5 (fun _ _ => False) I5 (stat I5 n5) st5 go
      refine thnF ti fun r t6 ⟨u, hr, h6⟩ => ?_
      subst hr
      refine thnF h6 fun _ t7 ⟨x, H7, I7, r7, y7, st7, n7⟩ => ?_
      have P7 := I7.pinned (stat I7 n7) (T.obj _ _ st7)
      refine thnF (pg.run _ t7 _ H7 x u _ P7 r7 (step x H7 y7)) fun _ t8 ⟨ρ, H8, I8, hw, q8⟩ => ?_
      refine thnF (pt.run _ t8 ρ H8 _ I8 q8) fun b t9 ⟨H9, I9, q9⟩ => ?_
      have fin : ∀ {t : Shared} {K : Hp}, Inv (X.blk t3 H3 scope ce fp) ([] ++ pinsAt fp t7.heap) ρ K t → Nx K → ∃ k, k < n ∧ ∃ i K, Inv (X.blk t3 H3 scope ce fp) [] (wipe σ (own.map (·.2))) K t ∧ tn i t.heap ∧ (∀ b ∈ fp, K b = none) ∧ V0 i k K := fun {t K} I' nx => by
        obtain ⟨k, hk, w'⟩ := hNx K nx
        have kept : ∀ b ∈ fp, ∀ o, t7.heap.get? b = some o → t.heap.get? b = some o ∧ K b = none := fun b hb o e =>
          let z := I'.pin (b, o) (List.mem_append_right _ (List.mem_append_right _ (mem_pinsAt hb e)))
          ⟨z.1, z.2.1⟩
        have len : (wipe σ (own.map (·.2))).length = ρ.length := by rw [← hw, wipe_length]
        refine ⟨k, hk, i + 1, K, (I'.unpinned (pins := [])).weak len (fun j v e => by rw [← hw] at e; exact (wipe_some e).1), T.keep _ _ _ st7 fun b hb o e => (kept b hb o e).1, fun b hb => ?_, w'⟩
        obtain ⟨o, e, _⟩ := T.obj _ _ st7 b hb
        exact (kept b hb o e).2
      cases b with
      | false =>
        simp only [Bool.false_eq_true, if_false] at q9 ⊢
        exact fin I9 q9
      | true =>
        simp only [if_true] at q9 ⊢
        refine wpAny_mono ((pe _ _ leaves).run _ t9 ρ H9 _ (I9.wish _) q9) (fun z t10 hz => ?_) fun _ _ z => z
        obtain ⟨yv, H10, I10, r10, acc, hD10, hz10, nx⟩ := hz
        exact app_ok (X := X.blk t3 H3 scope ce fp) (I10.wish fun _ _ => False) hD10 hz10 r10 fun t11 I11 => fin I11 nx
  exact codeAny_compStart_list loop (T.self X.A 0 _ _ _ st4 loop)
end ZC
set_option Elab.async false
set_option linter.all false
set_option maxRecDepth 100000
set_option maxHeartbeats 2000000
namespace Z
open PySem L2
inductive RLX where
  | ok (ys : List D) (s : DS)
  | ex (x : Xc) (s : DS)
  | no
def RLX.push (y : D) : RLX → RLX
  | .ok ys s => .ok (y :: ys) s
  | .ex c s => .ex c s
  | .no => .no
def lclE (g : MG) (e : MX) (vs : List Nat) : List D → DS → RLX
  | [], s => .ok [] s
  | x :: xs, s => match g x s with
    | none => .no
    | some s2 => match e s2 with
      | .no => .no
      | .ex c s3 => .ex c s3
      | .ok y s3 => (lclE g e vs xs (wipeD s3 vs)).push y
def xLcE (mi : M (List D)) (g : MG) (e : MX) (vs : List Nat) : MX := fun s => match mi s with
  | .no => .no
  | .ok xs s1 => if fits xs.length then (match lclE g e vs xs (wipeD s1 vs) with
    | .no => .no
    | .ex c s2 => .ex c (back s1 s2 vs)
    | .ok ys s2 => .ok (.list ys) (back s1 s2 vs)) else .no
def comb (yc : List D) : RLX → RLX
  | .ok ys s => .ok (yc ++ ys) s
  | .ex c s => .ex c s
  | .no => .no
theorem comb_nil (r : RLX) : comb [] r = r := by cases r <;> rfl
theorem comb_push (yc : List D) (y : D) (r : RLX) : comb yc (r.push y) = comb (yc ++ [y]) r := by
  cases r with
  | ok ys s => show RLX.ok _ _ = RLX.ok _ _; rw [List.append_assoc]; rfl
  | ex c s => rfl
  | no => rfl
section
variable {K : Fg} {c : Ctx} {O : List Kd} {vs : List Nat}
theorem x_lcE {k : Kd} {W : WX} {wi : TI} {mi : M (List D)} {g : TG} {mg : MG} {te : WX → TE} {me : MX} (hW : c.W = W) (hi : DI K c O wi mi) (hg : ∀ c' : Ctx, DV K c' O vs g mg) (he : ∀ (c' : Ctx) (V : WX), c'.mg = c.mg → c'.W = V → c'.Ox = none → DX K c' O k (te V) me)
    (hv : ∀ v ∈ vs, O[v]? = some .sh) : DX K c O (.ls k) (ZC.tLcX W wi g tYes te vs) (xLcE mi mg me vs) := ⟨fun {F H σ fps ds} r Q q => by
  unfold xLcE at q
  cases e1 : mi ds with
  | no => rw [e1] at q; exact q.elim
  | ok xs s1 =>
    rw [e1] at q
    dsimp only at q
    split at q
    case isFalse => exact q.elim
    rename_i hf
    have hfit := fits_of hf
    refine hi.run r e1 _ fun F1 H1 fps1 J sF r1 wk => ?_
    intro p hp
    obtain ⟨pF, p0, pq⟩ := r1.fresh hp
    have r1' := (r1.allocO hp (.lst [])).wiped hv
    generalize hT : lclE mg me vs xs (wipeD s1 vs) = T at q
    refine ⟨fun i m Hc => m + i = xs.length ∧ ∃ Fc fpc dc acc yc fs, Same F1 Fc ∧ Rel K c O Fc Hc (wipe σ vs) fpc dc ∧ Acc K c k Fc Hc fpc p acc yc fs ∧ comb yc (lclE mg me vs (xs.drop i) dc) = T ∧ acc.length = i,
      ⟨xs.length, by omega, F1, fps1, _, [], [], [], Same.refl _, r1', ⟨upd_same, fun q hq => ?_, .nil, by simp⟩, by rw [List.drop_zero, comb_nil]; exact hT, rfl⟩, ?_⟩
    · have : q = p := by simpa using hq
      subst this
      exact ⟨pF, by rw [upd_same]; simp, p0, pq⟩
    rintro i m Hc ⟨hm, Fc, fpc, dc, acc, yc, fs, sc, rc, ac, el, hai⟩
    obtain ⟨w1, w2⟩ := wk Fc Hc i sc rc.sub
    cases hx : xs[i]? with
    | none =>
      have hl : xs.length ≤ i := List.getElem?_eq_none_iff.mp hx
      refine .inl ⟨w2 (by omega), ?_⟩
      rw [List.drop_of_length_le hl] at el
      have el : RLX.ok (yc ++ []) dc = T := el
      rw [List.append_nil] at el
      subst el
      refine q Fc Hc _ (.ref p) (p :: fs.flatten) (sF.trans sc) (r1.backed rc (wipe_wipe _ _) sc hv) ⟨p, acc, yc, fs, rfl, rfl, ac.at_, rfl, ac.al⟩ (fun q' hq' => ?_) ac.nd
      obtain ⟨a1, a2, a3, a4⟩ := ac.off q' hq'
      refine ⟨a1, a2, a3, fun j => ?_⟩
      by_cases z : j ∈ vs
      · simp only [if_pos z]; simp
      · simp only [if_neg z]; exact a4 j
    | some d0 =>
      obtain ⟨go, yl⟩ := w1 d0 hx
      have hlt : i < xs.length := (List.getElem?_eq_some_iff.mp hx).1
      have hd : xs.drop i = d0 :: xs.drop (i + 1) := by
        rw [List.drop_eq_getElem_cons hlt]
        congr 1
        rw [List.getElem?_eq_getElem hlt] at hx
        exact Option.some.inj hx
      rw [hd] at el
      unfold lclE at el
      refine .inr ⟨go, fun Hn => ∃ Fc fpc dc acc yc fs, Same F1 Fc ∧ Rel K c O Fc Hn (wipe σ vs) fpc dc ∧ Acc K c k Fc Hn fpc p acc yc fs ∧ comb yc (lclE mg me vs (xs.drop (i + 1)) dc) = T ∧ acc.length = i + 1, fun Hn h => ⟨m - 1, by omega, by omega, h⟩, fun x H3 hy => ?_⟩
      have rf := rc.focus
      obtain ⟨F3, gr, dp⟩ := yl x H3 hy
      obtain ⟨r3, s3⟩ := gr.rel rf
      split at el
      · subst el; exact q.elim
      · rename_i s4 hs4
        refine (hg _).run r3 dp hs4 _ fun σ4 fps4 r4 e4 => ⟨by rw [e4, wipe_wipe], ?_⟩
        have e4' : wipe σ4 vs = wipe σ vs := by rw [e4, wipe_wipe]
        refine (d_yes (K := K)).run r4 rfl _ fun F5 H5 fps5 sF5 r5 => ?_
        refine iteT ?_
        have rw5 := r5.wish (fun cls d _ K => W cls d σ K) none
        refine (he ((c.from O Fc Hc fpc).wish (fun cls d _ K => W cls d σ K) none) (fun cls d _ K => W cls d σ K) rfl rfl rfl).run rw5 _ ?_
        cases e6 : me s4 with
        | no => rw [e6] at el; subst el; exact q.elim
        | ex xc s6 =>
          rw [e6] at el
          have el : RLX.ex xc s6 = T := el
          subst el
          intro F6 H6 fps6 cls dd sF6 r6w hx6
          have r7 := rc.unfocus' r6w.unwish
          have hs : Same Fc F6 := (s3.trans sF5).trans sF6
          have := q F6 H6 _ cls dd (sF.trans (sc.trans hs)) (r1.backed r7 (e4'.trans (by rfl)) (sc.trans hs) hv) hx6
          rw [hW] at this
          exact this
        | ok y s6 =>
          rw [e6] at el
          dsimp only at el
          rw [comb_push] at el
          refine fun F6 H6 fps6 u fpu sF6 r6w ow hfu ndu => ?_
          have r6 := r6w.unwish
          have hs : Same Fc F6 := (s3.trans sF5).trans sF6
          have a6 := ac.step hs r6
          have r7 := rc.unfocus' r6
          have hl : acc.length = yc.length := ac.al.len.1
          refine ⟨acc, a6.at_, by omega, ?_⟩
          obtain ⟨pF6, pH6, p06, pq6⟩ := a6.off p List.mem_cons_self
          have r8 := (r7.updO pF6 p06 pq6 (.lst (acc ++ [u]))).wiped hv
          rw [e4'] at r8
          have hpu : p ∉ fpu := fun z => by
            have this : (c.from O Fc Hc fpc).H0 p = none := (hfu p z).2.2.1
            have hh : (c.from O Fc Hc fpc).H0 p = Hc p := from_some fun ⟨i, hi, _⟩ => (ac.off p List.mem_cons_self).2.2.2 i hi
            rw [hh] at this
            exact (ac.off p List.mem_cons_self).2.1 this
          have hfr : ∀ q ∈ fs.flatten, q ∉ fpu := fun q hq z => by
            have this : (c.from O Fc Hc fpc).H0 q = none := (hfu q z).2.2.1
            have hh : (c.from O Fc Hc fpc).H0 q = Hc q := from_some fun ⟨i, hi, _⟩ => (ac.off q (List.mem_cons_of_mem _ hq)).2.2.2 i hi
            rw [hh] at this
            exact (ac.off q (List.mem_cons_of_mem _ hq)).2.1 this
          have hpf : p ∉ fs.flatten := (List.nodup_cons.mp ac.nd).1
          refine ⟨F6, fps6, _, acc ++ [u], yc ++ [y], fs ++ [fpu], sc.trans hs, r8, ⟨upd_same, fun q hq => ?_, ?_, ?_⟩, el, by rw [List.length_append, List.length_singleton, hai]⟩
          · rcases List.mem_cons.mp hq with z | hq
            · subst z
              exact ⟨pF6, by rw [upd_same]; simp, p06, pq6⟩
            · rw [List.flatten_append, List.mem_append] at hq
              rcases hq with hq | hq
              · obtain ⟨b1, b2, b3, b4⟩ := a6.off q (List.mem_cons_of_mem _ hq)
                have hne : q ≠ p := fun z => hpf (z ▸ hq)
                exact ⟨b1, by rw [upd_ne hne]; exact b2, b3, b4⟩
              · have hq : q ∈ fpu := by simpa using hq
                obtain ⟨b1, b2, b3, b4⟩ := hfu q hq
                have hne : q ≠ p := fun z => hpu (z ▸ hq)
                have b3 : (c.from O Fc Hc fpc).H0 q = none := b3
                refine ⟨b1, by rw [upd_ne hne]; exact b2, ?_, b4⟩
                rcases from_none b3 with ⟨j, hj, hpm⟩ | h
                · rcases (rc.off j q hj).2.2 with h | ⟨_, h⟩
                  · exact h
                  · rw [hpm] at h; cases h
                · exact rc.live q h
          · refine All3.snoc ?_ (a6.al.imp fun x1 y1 z1 hz1 ow1 => ow_mono (Same.refl _) ow1 fun q hq => upd_ne fun z => hpf (z ▸ List.mem_flatten.mpr ⟨z1, hz1, hq⟩))
            exact ow_mono (Same.refl _) ow fun q hq => upd_ne fun z => hpu (z ▸ hq)
          · rw [List.flatten_append]
            have e9 : [fpu].flatten = fpu := by simp
            rw [e9]
            refine List.nodup_cons.mpr ⟨fun z => ?_, ?_⟩
            · rcases List.mem_append.mp z with z | z
              · exact hpf z
              · exact hpu z
            · exact List.nodup_append.mpr ⟨(List.nodup_cons.mp ac.nd).2, ndu, fun a ha b hb z => hfr a ha (z ▸ hb)⟩⟩
end
end Z
set_option Elab.async false
set_option linter.all false
set_option maxRecDepth 100000
set_option maxHeartbeats 2000000
namespace Z
open PySem L2
def LcX0 (xs : List D) (s : DS) (g : MG) (e : MX) (vs : List Nat) (Q : List D → DS → Prop) (E : Xc → DS → Prop) : Prop := match lclE g e vs xs s with
  | .ok ys s' => Q ys s'
  | .ex c s' => E c s'
  | .no => False
@[irreducible] def LcX (xs : List D) (s : DS) (g : MG) (e : MX) (vs : List Nat) (Q : List D → DS → Prop) (E : Xc → DS → Prop) (_ : W5 g e vs Q E := Unit.unit) : Prop := LcX0 xs s g e vs Q E
section
variable {s : DS} {mi : M (List D)} {g : MG} {e : MX} {vs : List Nat} {Q : D → DS → Prop} {E : Xc → DS → Prop}
theorem xv_lcE_0 : EvX0 (xLcE mi g e vs) s Q E = Ev0 mi s fun xs s1 => fits xs.length = true ∧ LcX0 xs (wipeD s1 vs) g e vs (fun ys s2 => Q (.list ys) (back s1 s2 vs)) (fun c s2 => E c (back s1 s2 vs)) := by
  unfold EvX0 Ev0 xLcE LcX0
  cases mi s with
  | no => rfl
  | ok xs s1 =>
    dsimp only
    by_cases h : fits xs.length = true
    · rw [if_pos h]
      simp only [h, true_and]
      cases lclE g e vs xs (wipeD s1 vs) <;> rfl
    · rw [if_neg h]; simp [h]
theorem xv_lcE : EvX (xLcE mi g e vs) s Q E = Ev mi s fun xs s1 => fits xs.length = true ∧ LcX xs (wipeD s1 vs) g e vs (fun ys s2 => Q (.list ys) (back s1 s2 vs)) (fun c s2 => E c (back s1 s2 vs)) := by with_unfolding_all exact xv_lcE_0
end
theorem lcx_map {xs : List D} {s : DS} {g : MG} {e : MX} {vs : List Nat} {Q : List D → DS → Prop} {E : Xc → DS → Prop} (f : D → Option D) (x : Xc)
    (ht : ∀ d ∈ xs, So (g d s) fun s2 => EvX e s2 (fun y s4 => f d = some y ∧ wipeD s4 vs = s) (fun c s4 => f d = none ∧ c = x ∧ wipeD s4 vs = s))
    (hq : (∀ d ∈ xs, f d ≠ none) → Q (xs.filterMap f) s) (hx : (∃ d ∈ xs, f d = none) → ∀ s4, wipeD s4 vs = s → E x s4) : LcX xs s g e vs Q E := by
  have ht : ∀ d ∈ xs, So0 (g d s) fun s2 => EvX0 e s2 (fun y s4 => f d = some y ∧ wipeD s4 vs = s) (fun c s4 => f d = none ∧ c = x ∧ wipeD s4 vs = s) := by with_unfolding_all exact ht
  have key : ∀ (xs : List D) (Q : List D → DS → Prop) (E : Xc → DS → Prop), (∀ d ∈ xs, So0 (g d s) fun s2 => EvX0 e s2 (fun y s4 => f d = some y ∧ wipeD s4 vs = s) (fun c s4 => f d = none ∧ c = x ∧ wipeD s4 vs = s)) →
      ((∀ d ∈ xs, f d ≠ none) → Q (xs.filterMap f) s) → ((∃ d ∈ xs, f d = none) → ∀ s4, wipeD s4 vs = s → E x s4) → LcX0 xs s g e vs Q E := by
    intro xs
    induction xs with
    | nil =>
      intro Q E _ hq _
      exact hq (fun d hd => by cases hd)
    | cons d r ih =>
      intro Q E ht hq hx
      have h1 := ht d List.mem_cons_self
      unfold LcX0 lclE
      unfold So0 at h1
      cases eg : g d s with
      | none => rw [eg] at h1; exact h1
      | some s2 =>
        rw [eg] at h1
        dsimp only at h1 ⊢
        unfold EvX0 at h1
        cases ee : e s2 with
        | no => rw [ee] at h1; exact h1
        | ex c s4 =>
          rw [ee] at h1
          obtain ⟨a1, rfl, a3⟩ := h1
          exact hx ⟨d, List.mem_cons_self, a1⟩ s4 a3
        | ok y s4 =>
          rw [ee] at h1
          obtain ⟨a1, a2⟩ := h1
          dsimp only
          rw [a2]
          have := ih (fun ys s5 => Q (y :: ys) s5) E (fun d hd => ht d (List.mem_cons_of_mem _ hd))
            (fun h => by
              have := hq fun d' hd' => by
                rcases List.mem_cons.mp hd' with rfl | hd'
                · rw [a1]; exact Option.some_ne_none _
                · exact h d' hd'
              rw [List.filterMap_cons, a1] at this
              exact this)
            (fun ⟨d', hd', h⟩ => hx ⟨d', List.mem_cons_of_mem _ hd', h⟩)
          unfold LcX0 at this
          cases el : lclE g e vs r s with
          | ok ys s5 => rw [el] at this; exact this
          | ex c s5 => rw [el] at this; exact this
          | no => rw [el] at this; exact this
  have := key xs Q E ht hq hx
  with_unfolding_all exact this
end Z
set_option Elab.async false
set_option linter.all false
set_option maxRecDepth 100000
set_option maxHeartbeats 2000000
namespace Z
open PySem L2
def leU : D → D → Option D
  | .int i, .int j => some (.bool (decide (i ≤ j)))
  | .str i, .str j => some (.bool (!decide (j.cps.toList < i.cps.toList)))
  | _, _ => none
def rLeS : R2 := fun x y H Q => ∃ i j, x = .str i ∧ y = .str j ∧ Q (.bl (!decide (j.cps.toList < i.cps.toList))) H
def rLeU : R2 := fun x y H Q => rI0 (fun i j => .bl (decide (i ≤ j))) x y H Q ∨ rLeS x y H Q
theorem op_leU {X : Cx} : OpR X (compareOp .LtE) rLeU := op_le.or op_le_str
def oneC (x : Str) : Option Nat := match x.cps.toList with
  | [c] => some c
  | _ => none
theorem oneC_eq {x : Str} {c : Nat} (h : oneC x = some c) : x = ⟨#[c]⟩ := by
  unfold oneC at h
  split at h
  · rename_i c' e
    cases h
    obtain ⟨a⟩ := x
    have : a = #[c] := by
      apply Array.ext'
      exact e
    rw [this]
  · cases h
def notInSg : D → D → Option D
  | .str x, .str z => (oneC x).map fun c => .bool (!decide (c ∈ z.cps.toList))
  | _, _ => none
def stf : D → Option Str
  | .str x => some x
  | _ => none
def rNotInSg : R2 := fun x y H Q => ∃ (c : Nat) (z : Str), x = .str ⟨#[c]⟩ ∧ y = .str z ∧ Q (.bl (!decide (c ∈ z.cps.toList))) H
theorem op_notInSg {X : Cx} : OpR X (compareOp .NotIn) rNotInSg := op_notIn_sign
def strI : List D → Option D
  | [.int i] => if decide (i.natAbs.log2 < 1920) = true then some (.str (toString i)) else none
  | _ => none
def intS : List D → Option D
  | [.str a] => match PySem.intText? a with
    | some n => if decide (a.length ≤ 640) = true then some (.int n) else none
    | none => none
  | _ => none
def splitD (x y : D) : Option D := match x, y with
  | .str a, .str b => if (!(b.length == 0) && decide (a.length + 2 ≤ sizeLine)) = true then some (.list ((PySem.Txt.split a b).map .str)) else none
  | _, _ => none
def joinT (x y : D) : Option D := match x with
  | .str a => joinD a y
  | _ => none
def mItS (m : M D) : M (List D) := bnd m fun d => opt (match d with | .str x => some (x.cps.toList.map fun c => .str ⟨#[c]⟩) | _ => none)
def mBin (f : D → D → Option D) (a b : M D) : M D := bnd a fun x => bnd b fun y => opt (f x y)
section
variable {K : Fg}
theorem g_leU : OpG K rLeU leU := fun F H x y dx dy d sF vx vy e Q q => by
  unfold leU at e
  split at e
  · cases e
    rw [vx.int, vy.int]
    exact .inl ⟨_, _, rfl, rfl, q F H _ .refl (.bl _)⟩
  · cases e
    rw [vx.str, vy.str]
    exact .inr ⟨_, _, rfl, rfl, q F H _ .refl (.bl _)⟩
  · cases e
theorem g_notInSg : OpG K rNotInSg notInSg := fun F H x y dx dy d sF vx vy e Q q => by
  unfold notInSg at e
  split at e
  · rename_i x z
    cases h : oneC x with
    | none => rw [h] at e; cases e
    | some c =>
      rw [h] at e
      cases e
      rw [vx.str, vy.str, oneC_eq h]
      exact ⟨_, _, rfl, rfl, q F H _ .refl (.bl _)⟩
  · cases e
theorem g_intS : CaG K (fun xs H Q => ∃ a n, xs = [.str a] ∧ PySem.intText? a = some n ∧ a.length ≤ 640 ∧ Q (.int n) H) intS := fun F H xs es d sF va e Q q => by
  unfold intS at e
  split at e
  · split at e
    · rename_i n hn
      split at e
      · rename_i hz
        cases e
        cases va with
        | cons h t =>
          cases t
          rw [h.str]
          exact ⟨_, _, rfl, hn, of_decide_eq_true hz, q F H _ .refl (.int _)⟩
      · cases e
    · cases e
  · cases e
end
theorem dpa_strs {K : Fg} {F : Hp} : ∀ ys : List Str, DpAll K F (ys.map V.str) (ys.map PyData.str)
  | [] => .nil
  | y :: ys => .cons (.str y) (dpa_strs ys)
section
variable {K : Fg} {c : Ctx} {O : List Kd} {ta tb : TE} {a b : M D}
theorem d_split (ha : DE K c O ta a) (hb : DE K c O tb b) : DE K c O (tM1 (fun x xs H Q => ∃ a b, x = .str a ∧ xs = [.str b] ∧ (b.length == 0) = false ∧ a.length + 2 ≤ sizeLine ∧ rNewStrs (PySem.Txt.split a b) H Q) ta tb) (mBin splitD a b) := ⟨fun {F H σ fps ds ds' d} r e Q q => by
  obtain ⟨x, s1, e1, g1⟩ := bnd_ok e
  obtain ⟨y, s2, e2, g2⟩ := bnd_ok g1
  obtain ⟨g3, z⟩ := opt_ok g2
  subst z
  unfold splitD at g3
  split at g3
  · rename_i x1 x2
    split at g3
    · rename_i hh
      rw [Bool.and_eq_true] at hh
      cases g3
      refine ha.run r e1 _ fun F1 H1 fps1 v sF r1 dp => ?_
      cases dp
      refine ⟨⟨_, rfl⟩, hb.run r1 e2 _ fun F2 H2 fps2 w sF2 r2 dp2 => ?_⟩
      cases dp2
      refine ⟨_, _, rfl, rfl, by simpa using hh.1, of_decide_eq_true hh.2, fun p hp => ?_⟩
      have r3 := r2.alloc hp (.lst ((PySem.Txt.split x1 x2).map V.str))
      have sU := same_upd (F := F2) (o := .lst ((PySem.Txt.split x1 x2).map V.str)) (r2.fresh hp).1
      exact q _ _ fps2 _ ((sF.trans sF2).trans sU) r3 (.lst (SqL.of upd_same) (dpa_strs _))
    · cases g3
  · cases g3⟩
theorem d_joinT (ha : DE K c O ta a) (hb : DE K c O tb b) : DE K c O (tM1 (fun x xs H Q => ∃ a p, ∃ ys : List Str, x = .str a ∧ xs = [.ref p] ∧ (SqL K H p (ys.map V.str) ∨ SqT K H p (ys.map V.str)) ∧ (ys.map (·.length)).sum + ys.length * a.length ≤ 16777216 ∧ Q (.str (PySem.Txt.join a ys)) H) ta tb) (mBin joinT a b) := ⟨fun {F H σ fps ds ds' d} r e Q q => by
  obtain ⟨x, s1, e1, g1⟩ := bnd_ok e
  obtain ⟨y, s2, e2, g2⟩ := bnd_ok g1
  obtain ⟨g3, z⟩ := opt_ok g2
  subst z
  unfold joinT at g3
  split at g3
  · unfold joinD at g3
    split at g3
    · split at g3
      · rename_i ys hy
        split at g3
        · rename_i hz
          cases g3
          refine ha.run r e1 _ fun F1 H1 fps1 v sF r1 dp => ?_
          cases dp
          refine ⟨⟨_, rfl⟩, hb.run r1 e2 _ fun F2 H2 fps2 w sF2 r2 dp2 => ?_⟩
          cases dp2 with
          | lst hq al =>
            rw [strs_dp al hy] at hq
            exact ⟨_, _, ys, rfl, rfl, .inl (sqL_mono r2.sub hq), hz, q F2 H2 fps2 _ (sF.trans sF2) r2 (.str _)⟩
        · cases g3
      · cases g3
    · cases g3
  · cases g3⟩
theorem walk_s {F : Hp} (x : Str) : Walks K F (Its x) (x.cps.toList.map fun c => PyData.str ⟨#[c]⟩) := fun F1 H1 i s1 s2 => by
  refine ⟨fun d hd => ?_, fun hi => by rw [List.length_map, Array.length_toList] at hi; exact Nat.le_of_eq hi.symm⟩
  rw [List.getElem?_map, Array.getElem?_toList] at hd
  cases hc : x.cps[i]? with
  | none => rw [hc] at hd; cases hd
  | some cc =>
    rw [hc] at hd
    cases hd
    refine ⟨(Array.getElem?_eq_some_iff.mp hc).1, fun v H2 hy => ?_⟩
    obtain ⟨e, c2, h2, rfl⟩ := hy
    subst e
    rw [hc] at h2
    cases h2
    exact ⟨F1, .refl, .str _⟩
theorem i_str (h : DE K c O ta a) : DI K c O (iStr ta) (mItS a) := ⟨fun {F H σ fps ds ds' xs} r e R q => by
  obtain ⟨d, s1, e1, g1⟩ := bnd_ok e
  obtain ⟨g2, z⟩ := opt_ok g1
  subst z
  split at g2
  · cases g2
    refine h.run r e1 _ fun F1 H1 fps1 v sF r1 dp => ?_
    cases dp
    exact ⟨_, rfl, q F1 H1 fps1 _ sF r1 (walk_s _)⟩
  · cases g2⟩
end
section
variable {s : DS} {Q : D → DS → Prop} {P : D → Prop} {a b : M D}
theorem ev_bin_0 {f : D → D → Option D} : Ev0 (mBin f a b) s Q = Ev0 a s fun x s1 => Ev0 b s1 fun y s2 => So0 (f x y) fun d => Q d s2 := by
  unfold mBin
  rw [ev_bnd_0]
  refine ev_ext_0 fun x s1 => ?_
  rw [ev_bnd_0]
  refine ev_ext_0 fun y s2 => ?_
  rw [ev_opt_0]
theorem ev_bin {f : D → D → Option D} : Ev (mBin f a b) s Q = Ev a s fun x s1 => Ev b s1 fun y s2 => So (f x y) fun d => Q d s2 := by with_unfolding_all exact ev_bin_0
theorem ev_itS_0 {R : List D → DS → Prop} : Ev0 (mItS a) s R = Ev0 a s fun d s1 => So0 (stf d) fun x => R (x.cps.toList.map fun c => .str ⟨#[c]⟩) s1 := by
  unfold mItS
  rw [ev_bnd_0]
  refine ev_ext_0 fun d s1 => ?_
  rw [ev_opt_0]
  cases d <;> rfl
theorem so_leS {x y : Str} : So (leU (.str x) (.str y)) P = P (.bool (!decide (y.cps.toList < x.cps.toList))) := so_some
theorem so_notInSg {c : Nat} {z : Str} : So (notInSg (.str ⟨#[c]⟩) (.str z)) P = P (.bool (!decide (c ∈ z.cps.toList))) := so_some
theorem so_stf {x : Str} {P : Str → Prop} : So (stf (.str x)) P = P x := so_some
theorem ev_itS {R : List D → DS → Prop} : Ev (mItS a) s R = Ev a s fun d s1 => So (stf d) fun x => R (x.cps.toList.map fun c => .str ⟨#[c]⟩) s1 := by with_unfolding_all exact ev_itS_0
end
end Z
set_option Elab.async false
set_option linter.all false
set_option maxRecDepth 100000
set_option maxHeartbeats 2000000
namespace Z
open PySem L2
def layS (x : Str) : Bool := PyData.canLay0 (.str x)
def okE (a b : Str) : Bool := layS a && layS b
theorem shp_S {x : Str} : SeqAt.shaped (.str x) = layS x := by
  unfold SeqAt.shaped layS
  simp [PyData.depth]
theorem eqB_S {a b : Str} : eqB (.str a) (.str b) = if okE a b then some (decide (a = b)) else none := by
  show (if SeqAt.shaped (.str a) && SeqAt.shaped (.str b) then some (PyData.eqv (.str a) (.str b)) else none) = _
  rw [shp_S, shp_S]
  show (if okE a b then some (PyData.eqv (.str a) (.str b)) else none) = _
  rw [PyData.eqv, Bool.beq_eq_decide_eq]
section
variable {a b : Str} {c : Nat} {lo hi : Option Int} {i : Int} {Q : D → Prop}
theorem so_eqS : So (eqD (.str a) (.str b)) Q = (okE a b = true ∧ Q (.bool (decide (a = b)))) := by
  unfold eqD
  rw [eqB_S]
  by_cases h : okE a b = true
  · rw [if_pos h, Option.map_some, so_some]; simp [h]
  · rw [if_neg h, Option.map_none, so_none]; simp [h]
theorem so_neS : So (neD (.str a) (.str b)) Q = (okE a b = true ∧ Q (.bool (!decide (a = b)))) := by
  unfold neD
  rw [eqB_S]
  by_cases h : okE a b = true
  · rw [if_pos h, Option.map_some, so_some]; simp [h]
  · rw [if_neg h, Option.map_none, so_none]; simp [h]
theorem so_slS : So (slD (.str a) lo hi) Q = (fits a.length = true ∧ Q (.str (cutS a lo hi))) := by
  unfold slD
  rw [so_if, so_some]
theorem so_lenS : So (lenD [.str a]) Q = (fits a.length = true ∧ Q (.int a.length)) := by
  unfold lenD
  rw [so_if, so_some]
theorem so_ixS : So (ixD (.str a) (.int i)) Q = (fits a.length = true ∧ So (atI a.cps.toList i) fun c => Q (.str ⟨#[c]⟩)) := by
  unfold ixD
  rw [so_if]
  cases atI a.cps.toList i with
  | none => rw [Option.map_none, so_none, so_none]
  | some c => rw [Option.map_some, so_some, so_some]
theorem so_addS : So (addD (.str a) (.str b)) Q = (fits (a.length + b.length) = true ∧ Q (.str (a ++ b))) := by
  unfold addD
  rw [so_if, so_some]
theorem so_strI : So (strI [.int i]) Q = (decide (i.natAbs.log2 < 1920) = true ∧ Q (.str (toString i))) := by
  unfold strI
  rw [so_if, so_some]
theorem so_intS : So (intS [.str a]) Q = So (PySem.intText? a) fun n => decide (a.length ≤ 640) = true ∧ Q (.int n) := by
  have e : intS [.str a] = (match PySem.intText? a with
    | some n => if decide (a.length ≤ 640) = true then some (.int n) else none
    | none => none) := rfl
  rw [e]
  generalize PySem.intText? a = o
  cases o with
  | none => exact so_none.trans so_none.symm
  | some n =>
    rw [so_some]
    show So (if decide (a.length ≤ 640) = true then some (PyData.int n) else none) Q = _
    rw [so_if, so_some]
theorem so_splitD : So (splitD (.str a) (.str b)) Q = ((!(b.length == 0) && decide (a.length + 2 ≤ sizeLine)) = true ∧ Q (.list ((PySem.Txt.split a b).map .str))) := by
  unfold splitD
  rw [so_if, so_some]
theorem strsD_map : ∀ ys : List Str, strsD (ys.map PyData.str) = some ys
  | [] => rfl
  | y :: ys => by
    show (strsD (ys.map PyData.str)).map (y :: ·) = _
    rw [strsD_map ys]; rfl
theorem so_joinT {ys : List Str} : So (joinT (.str a) (.list (ys.map .str))) Q = ((ys.map (·.length)).sum + ys.length * a.length ≤ 16777216 ∧ Q (.str (PySem.Txt.join a ys))) := by
  show So (match strsD (ys.map PyData.str) with
    | some ys => if (ys.map (·.length)).sum + ys.length * a.length ≤ 16777216 then some (PyData.str (PySem.Txt.join a ys)) else none
    | none => none) Q = _
  rw [strsD_map]
  dsimp only
  rw [so_dec, so_some]
def isDg (c : Nat) : Bool := decide (48 ≤ c) && decide (c ≤ 57)
theorem so_le0 : So (leU (.str "0") (.str ⟨#[c]⟩)) Q = Q (.bool (decide (48 ≤ c))) := by
  rw [so_leS]
  have : (!decide ((⟨#[c]⟩ : Str).cps.toList < ("0" : Str).cps.toList)) = decide (48 ≤ c) := by
    show (!decide ([c] < [48])) = _
    by_cases h : 48 ≤ c
    · rw [decide_eq_true h, decide_eq_false (by simp [List.cons_lt_cons_iff]; omega)]; rfl
    · rw [decide_eq_false h, decide_eq_true (by simp [List.cons_lt_cons_iff]; omega)]; rfl
  rw [this]
theorem so_le9 : So (leU (.str ⟨#[c]⟩) (.str "9")) Q = Q (.bool (decide (c ≤ 57))) := by
  rw [so_leS]
  have : (!decide (("9" : Str).cps.toList < (⟨#[c]⟩ : Str).cps.toList)) = decide (c ≤ 57) := by
    show (!decide ([57] < [c])) = _
    by_cases h : c ≤ 57
    · rw [decide_eq_true h, decide_eq_false (by simp [List.cons_lt_cons_iff]; omega)]; rfl
    · rw [decide_eq_false h, decide_eq_true (by simp [List.cons_lt_cons_iff]; omega)]; rfl
  rw [this]
theorem so_dig : So (notInSg (.str ⟨#[c]⟩) (.str "0123456789")) Q = Q (.bool (!isDg c)) := by
  rw [so_notInSg]
  have : decide (c ∈ ("0123456789" : Str).cps.toList) = isDg c := by
    show decide (c ∈ [48, 49, 50, 51, 52, 53, 54, 55, 56, 57]) = _
    unfold isDg
    rw [← Bool.decide_and]
    refine decide_eq_decide.mpr ?_
    simp only [List.mem_cons, List.not_mem_nil, or_false]
    omega
  rw [this]
end
theorem cut_hd (z : Str) : (cutS z none (some 1)).cps.toList = z.cps.toList.take 1 := by
  unfold cutS
  have e : HT.sIx z.length z.length (some 1) = min 1 z.length := HT.sIx_nat z.length z.length 1
  rw [HT.sIx_none, e, List.drop_zero, Nat.sub_zero]
  have hl : z.cps.toList.length = z.length := Array.length_toList
  show z.cps.toList.take (min 1 z.length) = _
  rw [← hl, List.take_eq_take_iff]
  omega
theorem cut_tl (z : Str) : (cutS z (some 1) none).cps.toList = z.cps.toList.drop 1 := by
  unfold cutS
  have e : HT.sIx z.length 0 (some 1) = min 1 z.length := HT.sIx_nat z.length 0 1
  rw [HT.sIx_none, e]
  have hl : z.cps.toList.length = z.length := Array.length_toList
  show (z.cps.toList.drop (min 1 z.length)).take (z.length - min 1 z.length) = _
  rw [← hl]
  rw [List.take_of_length_le (by rw [List.length_drop]; omega)]
  by_cases h : 1 ≤ z.cps.toList.length
  · rw [Nat.min_eq_left h]
  · have : z.cps.toList = [] := List.eq_nil_of_length_eq_zero (by omega)
    rw [this]; rfl
def dgs (w : Str) : Str := if cutS w none (some 1) = "-" then cutS w (some 1) none else w
def numOk (w : Str) : Bool := decide (1 ≤ (dgs w).length) && (decide ((dgs w).length ≤ 60) && (dgs w).cps.toList.all isDg)
def numD (w : Str) : D := if numOk w && !(decide ((dgs w).cps.toList.head? = some 48) && !decide (w = "0")) then .int ((intText? w).getD 0) else .none
theorem dgs_len (w : Str) : (dgs w).length ≤ w.length ∧ w.length ≤ (dgs w).length + 1 := by
  unfold dgs
  have hl : ∀ z : Str, z.cps.toList.length = z.length := fun z => Array.length_toList
  split
  · rw [← hl, ← hl, cut_tl, List.length_drop]; omega
  · omega
theorem num_int {w : Str} (h : numOk w = true) : ∃ n, intText? w = some n ∧ w.length ≤ 640 := by
  unfold numOk at h
  rw [Bool.and_eq_true, Bool.and_eq_true, decide_eq_true_eq, decide_eq_true_eq] at h
  obtain ⟨h1, h2, h3⟩ := h
  have hw := dgs_len w
  have hl : ∀ z : Str, z.cps.toList.length = z.length := fun z => Array.length_toList
  have ad : PySem.NumText.AllDigits (dgs w).cps.toList := fun c hc => by
    have := List.all_eq_true.mp h3 c hc
    unfold isDg at this
    rw [Bool.and_eq_true, decide_eq_true_eq, decide_eq_true_eq] at this
    exact this
  have ne : (dgs w).cps.toList ≠ [] := fun e => by
    have := hl (dgs w)
    rw [e] at this
    simp at this
    omega
  by_cases hc : cutS w none (some 1) = "-"
  · have e1 : (dgs w).cps.toList = w.cps.toList.drop 1 := by
      unfold dgs; rw [if_pos hc, cut_tl]
    have e2 : w.cps.toList.take 1 = [45] := by rw [← cut_hd, hc]; rfl
    have e3 : w.cps.toList = 45 :: (dgs w).cps.toList := by
      rw [e1]
      conv => lhs; rw [← List.take_append_drop 1 w.cps.toList, e2]
      rfl
    exact ⟨_, intText_neg e3 ad ne (by omega), by omega⟩
  · have e1 : dgs w = w := by unfold dgs; rw [if_neg hc]
    rw [e1] at ad ne
    exact ⟨_, intText_digits ad ne (by omega), by omega⟩
end Z
set_option Elab.async false
set_option linter.all false
set_option maxRecDepth 100000
set_option maxHeartbeats 2000000
namespace Z
open PySem L2 PyProof.Rows
abbrev EntX : Type := Option (Str × Int × Int)
def entX (e : DictEntry) : EntX := match e.key, e.val with
  | .str x _, .int v _ => some (x, e.hash, v)
  | _, _ => none
def litX (w : World) (kvs : List (Str × Int)) : List EntX := kvs.map fun p => some (p.1, PyData.keyHash w.params p.1, p.2)
def dicX (K : Fg) (a : Addr) : Option (List EntX) := match K.lookup a with
  | some ⟨.type c, none, .dict es _, sl⟩ => (match decide (c = "dict") && (sl.isEmpty && !(a == sysModules)) with
    | true => some (es.toList.map entX)
    | false => none)
  | _ => none
def kls : List (Str × Int) → Str → Option Int
  | [], _ => none
  | (k, v) :: r, i => if k = i then some v else kls r i
structure KTxt (K : Fg) (w : World) (a : Addr) (kvs : List (Str × Int)) : Prop where
  ok : dicX K a = some (litX w kvs)
  nd : (kvs.map (·.1)).Nodup
theorem entX_ok {P : Program} {w : World} : ∀ {es : List DictEntry} {kvs : List (Str × Int)}, es.map entX = litX w kvs → ∃ vs : List (Key × Value), Pairs (mixKind P w) es vs ∧ (∀ e ∈ es, ∃ k, (mixKind P w).is k e.key = true ∧ e.hash = (mixKind P w).hash k) ∧ vs.map (·.1) = kvs.map (fun p => Sum.inr p.1) ∧ ∀ i : Str, RelO ((kls kvs i).map V.int) (valueAt vs (.inr i))
  | [], [], _ => ⟨[], .nil, fun e h => (by cases h), rfl, fun i => True.intro⟩
  | [], _ :: _, h => by cases h
  | _ :: _, [], h => by cases h
  | e :: es, (k', v') :: r, h => by
    have h1 : entX e :: es.map entX = some (k', PyData.keyHash w.params k', v') :: litX w r := h
    injection h1 with h2 h3
    obtain ⟨vs, p, ks, em, rv⟩ := entX_ok (P := P) (w := w) h3
    obtain ⟨hh, kk, vv⟩ := e
    unfold entX at h2
    cases kk with
    | str x t =>
      cases vv with
      | int v u =>
        have h4 := Option.some.inj h2
        obtain ⟨h5, h6⟩ := Prod.mk.inj h4
        obtain ⟨h6, h7⟩ := Prod.mk.inj h6
        have h5 : x = k' := h5
        have h6 : hh = PyData.keyHash w.params k' := h6
        have h7 : v = v' := h7
        subst h5 h6 h7
        refine ⟨(.inr x, .int v u) :: vs, .cons (mixKind_str P w x t) rfl p, fun e he => ?_, by simp [em], fun i => ?_⟩
        · rcases List.mem_cons.mp he with rfl | he
          · exact ⟨.inr x, mixKind_str P w x t, rfl⟩
          · exact ks e he
        · unfold kls
          unfold valueAt
          rw [List.find?_cons]
          by_cases z : x = i
          · subst z
            rw [if_pos rfl]
            simp only [decide_true]
            exact ⟨u, rfl⟩
          · have e2 : decide ((Sum.inr x : Key) = Sum.inr i) = false := decide_eq_false fun q => z (Sum.inr.inj q)
            rw [if_neg z]
            simp only [e2]
            exact rv i
      | _ => cases h2
    | _ => cases vv <;> cases h2
theorem KTxt.dict {K : Fg} {w : World} {a : Addr} {kvs : List (Str × Int)} (x : KTxt K w a kvs) {P : Program} {h : Heap} (X : K.In h) : (a == sysModules) = false ∧ ∃ vs : List (Key × Value), h.DictOf (mixKind P w) a vs ∧ ∀ i : Str, RelO ((kls kvs i).map V.int) (valueAt vs (.inr i)) := by
  have ok := x.ok
  unfold dicX at ok
  cases q : K.lookup a with
  | none => rw [q] at ok; cases ok
  | some o =>
    rw [q] at ok
    obtain ⟨oc, od, dt, sl⟩ := o
    cases oc with
    | type c =>
      cases od with
      | none =>
        cases dt with
        | dict es ep =>
          have ok2 : (match decide (c = "dict") && (sl.isEmpty && !(a == sysModules)) with
            | true => some (es.toList.map entX)
            | false => none) = some (litX w kvs) := ok
          cases z : decide (c = "dict") && (sl.isEmpty && !(a == sysModules)) with
          | false => rw [z] at ok2; cases ok2
          | true =>
            rw [z] at ok2
            rw [Bool.and_eq_true, Bool.and_eq_true] at z
            obtain ⟨e1, e2, e3⟩ := z
            have e1 : c = "dict" := of_decide_eq_true e1
            have e2 : sl = #[] := Array.isEmpty_iff.mp e2
            subst e1 e2
            refine ⟨by simpa using e3, ?_⟩
            obtain ⟨vs, p, ks, em, rv⟩ := entX_ok (P := P) (w := w) (Option.some.inj ok2)
            refine ⟨vs, ⟨_, es, ep, X _ _ q, ⟨rfl, rfl, rfl⟩, rfl, fun e he => ks e (by simpa using he), p, ?_⟩, rv⟩
            rw [em]
            have : kvs.map (fun p => (Sum.inr p.1 : Key)) = (kvs.map (·.1)).map Sum.inr := by rw [List.map_map]; rfl
            rw [this]
            exact List.Pairwise.map _ (fun a b (hne : a ≠ b) (z : (Sum.inr a : Key) = Sum.inr b) => hne (Sum.inr.inj z)) x.nd
        | _ => cases ok
      | some d => cases dt <;> cases ok
    | _ => cases od <;> cases dt <;> cases ok
def tKGet2 (kvs : List (Str × Int)) (te tf : TE) : TE := fun σ H Q => te σ H fun y H1 => ∃ i, y = .str i ∧ tf σ H1 fun z H2 => Q (((kls kvs i).map V.int).getD z) H2
section
variable {X : Cx} {a : Addr} {kvs : List (Str × Int)} {x : Str} {p apos cpos : Pos} {e f : Expr} {te tf : TE}
theorem pe_kget2 (hg : Gl X x) (hm : X.mg x = some (.ref a)) (hK : KTxt X.K X.w a kvs) (he : PE X e te) (hf : PE X f tf) (m : M2 X (.Name x p) "get" apos e f cpos) (hd : (x == ("__debug__" : Str)) = false := by decide) : PE X (.Call (.Attribute (.Name x p) "get" apos) [e, f] [] cpos) (tKGet2 kvs te tf) := by
  refine ⟨fun pins s σ H Q I h => ?_⟩
  have ho : PE X (.Name x p) (tC (.ref a)) := pe_glob hg hm rfl hd
  refine wpAny_Call_method m.base m.few m.line PySem.F.plainAttrs_dict PySem.F.slot_dict_get PySem.F.type_dict_get (thn (ho.run pins s σ H (fun x1 H1 => x1 = .ref a ∧ H1 = H) I ⟨rfl, rfl⟩) fun u s1 ⟨x1, H1, I1, rx, ex, eH⟩ => ?_)
  subst ex eH
  obtain rfl : u = Value.ref a := rx
  obtain ⟨_, vs0, dd0, _⟩ := hK.dict (P := X.prog) I1.kIn
  refine ⟨dd0.typeIs, fun b q => ?_, ?_⟩
  · cases q
    obtain ⟨ob, _, _, h1, h2, _⟩ := dd0
    exact ⟨ob, h1, h2.2.1⟩
  rw [m.trees]
  refine Calls.callWith_builtin rfl (Calls.evalArgs_plain (Calls.spliced_cons (thn (he.run pins s1 σ H1 _ I1 h) fun iv s2 ⟨y, H2, I2, ry, i, ey, q2⟩ =>
    Calls.spliced_cons (thn (hf.run pins s2 σ H2 _ I2 q2) fun fv s3 ⟨z, H3, I3, rz, q3⟩ => Calls.spliced_nil ?_))))
  subst ey
  obtain ⟨hd, vs, dd, rv⟩ := hK.dict (P := X.prog) I3.kIn
  exact call_meetsIn PySem.F.slot_dict_get dd.typeIs PySem.F.entry_dict_get (PySem.F.args_dict_get_3 _ _ _) (meets_dict_get_default (mixKind X.prog X.w) a (kV_is (k := .inr i) ry) hd fv) ⟨_, dd.mapOf, _, H3, I3.tok _, (rv i).getD rz, q3⟩
end
def kget2D (kvs : List (Str × Int)) : D → D → Option D
  | .str i, d => some (((kls kvs i).map PyData.int).getD d)
  | _, _ => none
section
variable {K : Fg} {c : Ctx} {O : List Kd} {te tf : TE} {a b : M D} {kvs : List (Str × Int)}
theorem d_kget2 (ha : DE K c O te a) (hb : DE K c O tf b) : DE K c O (tKGet2 kvs te tf) (mBin (kget2D kvs) a b) := ⟨fun {F H σ fps ds ds' d} r e Q q => by
  obtain ⟨x, s1, e1, g1⟩ := bnd_ok e
  obtain ⟨y, s2, e2, g2⟩ := bnd_ok g1
  obtain ⟨g3, z⟩ := opt_ok g2
  subst z
  cases x with
  | str i =>
    have g3 : some (((kls kvs i).map PyData.int).getD y) = some d := g3
    refine ha.run r e1 _ fun F1 H1 fps1 v sF r1 dp => ?_
    cases dp
    refine ⟨i, rfl, hb.run r1 e2 _ fun F2 H2 fps2 w sF2 r2 dp2 => ?_⟩
    refine q F2 H2 fps2 _ (sF.trans sF2) r2 ?_
    cases h : kls kvs i with
    | none => rw [h] at g3; cases g3; exact dp2
    | some v => rw [h] at g3; cases g3; exact .int _
  | _ => cases g3⟩
theorem so_kget2 {i : Str} {d : D} {Q : D → Prop} : So (kget2D kvs (.str i) d) Q = Q (((kls kvs i).map PyData.int).getD d) := so_some
end
abbrev TabX : Type := Str × List (Str × Int)
def tabsX (ts : List TabX) (K : Fg) : List (Option (List EntX)) := ts.map fun t => dicX K (He.ga K t.1)
def litsX (ts : List TabX) (w : World) : List (Option (List EntX)) := ts.map fun t => some (litX w t.2)
abbrev AlX : Type := (He.AlD × Bool) × List (Option (List EntX))
def obsX (n : Nat) (fa : List He.Fa) (fn : List He.DefD) (ex : Fg → Bool) (ts : List TabX) (g : Addr → Option Obj) : AlX := (obsE n fa fn ex g, tabsX ts (He.frG g (He.asD g n)))
def hookX (n : Nat) (fa : List He.Fa) (fn : List He.DefD) (ex : Fg → Bool) (ts : List TabX) : PySem.W.Hook where
  α := AlX
  obs := fun s => obsX n fa fn ex ts s.heap.get?
  val := fun w => ((He.valD fn, true), litsX ts w)
  says := fun w h => ∃ K : Fg, K.In h ∧ He.SaysD fa fn K ∧ ex K = true ∧ tabsX ts K = litsX ts w
  of := fun _ s e => ⟨He.frG s.heap.get? (He.asD s.heap.get? n), He.frG_in, congrArg (fun z : AlX => z.1.1) e, congrArg (fun z : AlX => z.1.2) e, congrArg (fun z : AlX => z.2) e⟩
  keeps := fun _ _ _ ⟨K, hK, c⟩ k => ⟨K, PySem.W.Frag.In.keeps hK k, c⟩
theorem obsX_eq {n : Nat} {fa : List He.Fa} {fn : List He.DefD} {ex : Fg → Bool} {ts : List TabX} {g : Addr → Option Obj} {s : Shared} (h : ∀ a, g a = s.heap.get? a) : obsX n fa fn ex ts g = (hookX n fa fn ex ts).obs s := by
  have e : g = s.heap.get? := funext h
  rw [e]
  rfl
theorem tab_at {ts : List TabX} {w : World} {K : Fg} (c : tabsX ts K = litsX ts w) (i : Nat) {t : TabX} (h : ts[i]? = some t) (nd : (t.2.map (·.1)).Nodup) : KTxt K w (He.ga K t.1) t.2 := by
  refine ⟨?_, nd⟩
  have e2 : (tabsX ts K)[i]? = (litsX ts w)[i]? := by rw [c]
  unfold tabsX litsX at e2
  rw [List.getElem?_map, List.getElem?_map, h] at e2
  exact Option.some.inj e2
end Z
set_option Elab.async false
set_option linter.all false
set_option maxRecDepth 100000
set_option maxHeartbeats 2000000
namespace Z
open PySem L2 PyProof.Rows
def rStrU (xs : List V) (H : Hp) (Q : VK) : Prop := (∃ i, xs = [.int i] ∧ i.natAbs.log2 < 1920 ∧ Q (.str (toString i)) H) ∨ ∃ a, xs = [.str a] ∧ Q (.str a) H
theorem call_strU {X : Cx} : CallR X (.type "str") rStrU := by
  intro pins s σ H xs us Q I r h
  rcases h with h | h
  · exact call_str_int pins s σ H xs us Q I r h
  · exact SkE.call_str_str pins s σ H xs us Q I r h
def strU : List D → Option D
  | [.int i] => if decide (i.natAbs.log2 < 1920) = true then some (.str (toString i)) else none
  | [.str a] => some (.str a)
  | _ => none
def inDp : D → D → Option D
  | d, .list ds => if SeqAt.shaped d && SeqAt.shaped (.list ds) then some (.bool (ds.any fun z => PyData.eqv z d)) else none
  | _, _ => none
section
variable {K : Fg}
theorem g_strU : CaG K rStrU strU := fun F H xs es d sF va e Q q => by
  unfold strU at e
  split at e
  · split at e
    · rename_i hz
      cases e
      cases va with
      | cons h t =>
        cases t
        rw [h.int]
        exact .inl ⟨_, rfl, of_decide_eq_true hz, q F H _ .refl (.str _)⟩
    · cases e
  · cases e
    cases va with
    | cons h t =>
      cases t
      rw [h.str]
      exact .inr ⟨_, rfl, q F H _ .refl (.str _)⟩
  · cases e
theorem g_inDp : OpG K (rInD K) inDp := fun F H x y dx dy d sF vx vy e Q q => by
  unfold inDp at e
  split at e
  · split at e
    · rename_i hf
      rw [Bool.and_eq_true] at hf
      cases e
      exact ⟨_, _, vx.dp sF, vy.dp sF, hf.1, hf.2, q F H _ .refl (.bl _)⟩
    · cases e
  · cases e
end
section
variable {i z : Int} {a t : Str} {Q : D → Prop} {kvs : List (Str × Int)}
theorem so_strUI : So (strU [.int i]) Q = (decide (i.natAbs.log2 < 1920) = true ∧ Q (.str (toString i))) := by
  unfold strU
  rw [so_if, so_some]
theorem so_strUS : So (strU [.str a]) Q = Q (.str a) := so_some
theorem so_kget2I : So (kget2D kvs (.str t) (.int z)) Q = Q (.int ((kls kvs t).getD z)) := by
  rw [so_kget2]
  cases kls kvs t <;> rfl
theorem so_inDp {d : D} {ds : List D} (h1 : SeqAt.shaped d = true) (h2 : SeqAt.shaped (.list ds) = true) (q : Q (.bool (ds.any fun z => PyData.eqv z d))) : So (inDp d (.list ds)) Q := by
  have : inDp d (.list ds) = some (.bool (ds.any fun z => PyData.eqv z d)) := by
    show (if (SeqAt.shaped d && SeqAt.shaped (.list ds)) = true then some (PyData.bool (ds.any fun z => PyData.eqv z d)) else none) = _
    rw [h1, h2]; rfl
  rw [this, so_some]
  exact q
end
end Z
set_option Elab.async false
set_option linter.all false
set_option maxRecDepth 100000
set_option maxHeartbeats 1000000
namespace S
open PySem L2 Z
def top (i : Nat) : Stmt := PySem.Challenge.pw_slackfigures_k46_whole_texts_of_deeds.main.body.getD i (.Pass ⟨0, 0, 0, 0⟩)
abbrev s_law_deck : Stmt := top 23
abbrev s_law_pick : Stmt := top 24
abbrev s_law_great : Stmt := top 25
abbrev s_law_deeds : Stmt := top 32
abbrev s_word_of : Stmt := top 18
abbrev s_show_deeds : Stmt := top 19
abbrev s_law_number : Stmt := top 31
abbrev s_law_read_row : Stmt := top 34
abbrev s_law_read : Stmt := top 35
abbrev s_law_text : Stmt := top 33
abbrev s_law_signs : Stmt := top 27
abbrev s_law_sign_bent : Stmt := top 28
abbrev s_law_list_bent : Stmt := top 29
abbrev s_law_bent : Stmt := top 30
abbrev s_number_of : Stmt := top 15
abbrev s_read_deed : Stmt := top 20
abbrev s_read_deeds : Stmt := top 21
abbrev s_law_name_of : Stmt := top 26
abbrev s_law_told : Stmt := top 36
abbrev s_law : Stmt := top 37
def tbl_NoCell : Str → Option Bool := fun n => List.lookup n [("NoText", false)]
def tbl_NoDeed : Str → Option Bool := fun n => List.lookup n [("NoText", false)]
def tbl_NoFigure : Str → Option Bool := fun n => List.lookup n [("NoText", false)]
def tbl_NoLooks : Str → Option Bool := fun n => List.lookup n [("NoText", false)]
def tbl_NoMore : Str → Option Bool := fun n => List.lookup n [("NoText", false)]
def tbl_NoRoom : Str → Option Bool := fun n => List.lookup n [("NoText", false)]
def tbl_NoRow : Str → Option Bool := fun n => List.lookup n [("NoText", false)]
def tbl_NoTable : Str → Option Bool := fun n => List.lookup n [("NoText", false)]
def tbl_NoText : Str → Option Bool := fun n => List.lookup n [("NoText", true)]
def tbl_NoWork : Str → Option Bool := fun n => List.lookup n [("NoText", false)]
def tbl_Spoilt : Str → Option Bool := fun n => List.lookup n [("NoText", false)]
def tbl_ValueError : Str → Option Bool := fun n => List.lookup n [("NoText", true)]
def subc_SlackError : Str → Option Bool := fun n => List.lookup n [("NoText", true)]
def nmT : Str → Option Str := fun n => List.lookup n [("NoText", "NoText+")]
def b_law_deck : MS := (sSeq (sIf (mB (mOp geI (mV (mVar 0)) (mV (mOp powI (mV (mC (.int 10))) (mV (mC (.int 18))))))) (sRet (mLst (mCons (mOp subI (mV (mVar 0)) (mV (mOp powI (mV (mC (.int 10))) (mV (mC (.int 18)))))) (mCons (mOp modI (mV (mVar 0)) (mV (mC (.int 2147483579)))) (mCons (mVar 1) mNil))))) sNx) (sRet (mLst (mCons (mC (.int 0)) (mCons (mOp modI (mV (mVar 0)) (mV (mC (.int 2147483579)))) (mCons (mVar 1) mNil))))))
def F_law_deck : FD := fnD 2 2 (.ls .sh) b_law_deck
def b_law_pick : MS := (sSeq (sIf (mB (mOp gtI (mV (mOp ixD (mSlot 0) (mV (mC (.int 0))))) (mV (mC (.int 1))))) (sSeq (sSet 3 (mOp modI (mV (mOp ixD (mSlot 0) (mV (mC (.int 0))))) (mV (mVar 1)))) (sSeq (sPut 0 (mC (.int 0)) (mOp divI (mV (mOp ixD (mSlot 0) (mV (mC (.int 0))))) (mV (mVar 1)))) (sRet (mVar 3)))) sNx) (sSeq (sPut 0 (mC (.int 2)) (mOp addD (mV (mOp ixD (mSlot 0) (mV (mC (.int 2))))) (mV (mC (.int 1))))) (sSeq (sSet 2 (mOp modI (mV (mOp powI (mV (mOp addD (mV (mOp ixD (mSlot 0) (mV (mC (.int 1))))) (mV (mOp mulI (mV (mC (.int 15485867))) (mV (mOp ixD (mSlot 0) (mV (mC (.int 2))))))))) (mV (mC (.int 5))))) (mV (mC (.int 2147483647))))) (sSeq (sSet 3 (mOp divI (mV (mOp modI (mV (mOp powI (mV (mOp addD (mV (mVar 2)) (mV (mOp mulI (mV (mC (.int 7919))) (mV (mOp ixD (mSlot 0) (mV (mC (.int 2))))))))) (mV (mC (.int 3))))) (mV (mC (.int 2147483629))))) (mV (mC (.int 32))))) (sSeq (sIf (mB (mOp gtI (mV (mVar 1)) (mV (mC (.int 1000000))))) (sRet (mOp modI (mV (mOp addD (mV (mOp mulI (mV (mVar 3)) (mV (mC (.int 2147483563))))) (mV (mVar 2)))) (mV (mVar 1)))) sNx) (sRet (mOp modI (mV (mVar 3)) (mV (mVar 1)))))))))
def F_law_pick : FD := fnD 4 2 .sh b_law_pick
def b_law_great : MS := (sSeq (sSet 2 (mC (.int 1))) (sSeq (sFor (mR1 (mCons (mCall1 F_law_pick 1 0 (mCons (mOp addD (mV (mVar 1)) (mV (mC (.int 1)))) mNil)) mNil)) (gN 3) (sSet 2 (mOp mulI (mV (mVar 2)) (mV (mC (.int 10)))))) (sSeq (sSet 4 (mC (.int 0))) (sSeq (sFor (mR1 (mCons (mC (.int 5)) mNil)) (gN 3) (sSet 4 (mOp addD (mV (mOp mulI (mV (mVar 4)) (mV (mOp powI (mV (mC (.int 10))) (mV (mC (.int 12))))))) (mV (mCall1 F_law_pick 1 0 (mCons (mOp powI (mV (mC (.int 10))) (mV (mC (.int 12)))) mNil)))))) (sRet (mOp modI (mV (mVar 4)) (mV (mVar 2))))))))
def F_law_great : FD := fnD 5 2 .sh b_law_great
def b_law_deeds : MS := (sSeq (sSet 1 (mLst mNil)) (sSeq (sFor (mR1 (mCons (mOp ixD (mV (mLst (mCons (mCall1 F_law_pick 1 0 (mCons (mC (.int 41)) mNil)) (mCons (mC (.int 599)) mNil)))) (mV (mB1 intD (mConsB (mV (mOp eqD (mV (mCall1 F_law_pick 1 0 (mCons (mC (.int 8)) mNil))) (mV (mC (.int 0))))) mNilB)))) mNil)) (gN 2) (sSeq (sSet 3 (mCall1 F_law_pick 1 0 (mCons (mC (.int 5)) mNil))) (sSeq (sSet 4 (mOp mulI (mV (mOp ixD (mV (mLst (mCons (mCall1 F_law_great 1 0 (mCons (mC (.int 60)) mNil)) (mCons (mCall1 F_law_pick 1 0 (mCons (mC (.int 40)) mNil)) (mCons (mC (.int 0)) mNil))))) (mV (mCall1 F_law_pick 1 0 (mCons (mC (.int 3)) mNil))))) (mV (mOp ixD (mV (mLst (mCons (mC (.int 1)) (mCons (mUn negI (mV (mC (.int 1)))) mNil)))) (mV (mCall1 F_law_pick 1 0 (mCons (mC (.int 2)) mNil))))))) (sIf (mB (mOp ltI (mV (mVar 3)) (mV (mC (.int 2))))) (sSeq (sSet 5 (mOp ixD (mV (mLst (mCons (mCall1 F_law_pick 1 0 (mCons (mC (.int 251)) mNil)) (mCons (mC (.int 0)) (mCons (mC (.int 250)) mNil))))) (mV (mCall1 F_law_pick 1 0 (mCons (mC (.int 3)) mNil))))) (sApp 1 (mTup (mCons (mOp ixD (mV (mLst (mCons (mC (.str "begin")) (mCons (mC (.str "rows")) mNil)))) (mV (mVar 3))) (mCons (mVar 4) (mCons (mOp addD (mV (mC (.int 1))) (mV (mCall1 F_law_pick 1 0 (mCons (mOp powI (mV (mC (.int 10))) (mV (mC (.int 9)))) mNil)))) (mCons (mVar 5) mNil))))))) (sIf (mB (mOp ltI (mV (mVar 3)) (mV (mC (.int 4))))) (sApp 1 (mTup (mCons (mC (.str "step")) (mCons (mOp ixD (mV (mLst (mCons (mCall1 F_law_pick 1 0 (mCons (mC (.int 9)) mNil)) (mCons (mVar 4) mNil)))) (mV (mCall1 F_law_pick 1 0 (mCons (mC (.int 2)) mNil)))) mNil)))) (sApp 1 (mTup (mCons (mC (.str "put")) (mCons (mCall1 F_law_pick 1 0 (mCons (mC (.int 64)) mNil)) (mCons (mVar 4) (mCons (mOp ixD (mV (mLst (mCons (mC .none) (mCons (mOp subI (mV (mC (.int 3))) (mV (mCall1 F_law_pick 1 0 (mCons (mC (.int 7)) mNil)))) mNil)))) (mV (mCall1 F_law_pick 1 0 (mCons (mC (.int 2)) mNil)))) mNil))))))))))) (sFrz 1 (sRet (mVar 1)))))
def F_law_deeds : FD := fnD 6 1 .sh b_law_deeds
def b_word_of : MS := (sSeq (sIf (mB (mOp isN (mV (mVar 0)) (mV (mC .none)))) (sRet (mC (.str "none"))) sNx) (sRet (mB1 strU (mConsB (mV (mVar 0)) mNilB))))
def F_word_of : FD := fnD 1 1 .sh b_word_of
def b_show_deeds : MS := (sRet (mBin joinT (mC (.str "\n")) (mLc (mIt (mVar 0)) (gN 1) mYes (mBin joinT (mC (.str " ")) (mLc (mIt (mVar 1)) (gN 2) mYes (mCall F_word_of 1 (mCons (mVar 2) mNil)) [2])) [1])))
def F_show_deeds : FD := fnD 3 1 .sh b_show_deeds
def b_law_number : MS := (sSeq (sSet 1 (mIf (mB (mOp eqD (mV (mSl (mV (mVar 0)) mP0 (mP1 (mC (.int 1))))) (mV (mC (.str "-"))))) (mSl (mV (mVar 0)) (mP1 (mC (.int 1))) mP0) (mVar 0))) (sSeq (sIf (mOr (mNot (mB (mChain ltI ltI (mC (.int 0)) (mB1 lenD (mConsB (mV (mVar 1)) mNilB)) (mC (.int 61))))) (mB (mOp neD (mV (mLc (mItS (mVar 1)) (gN 2) (mNot (mB (mChain leU leU (mC (.str "0")) (mVar 2) (mC (.str "9"))))) (mVar 2) [2])) (mV (mLst mNil))))) (sRet (mC .none)) sNx) (sRet (mIf (mAnd (mB (mOp eqD (mV (mOp ixD (mV (mVar 1)) (mV (mC (.int 0))))) (mV (mC (.str "0"))))) (mB (mOp neD (mV (mVar 0)) (mV (mC (.str "0")))))) (mC .none) (mB1 intS (mConsB (mV (mVar 0)) mNilB))))))
def F_law_number : FD := fnD 3 1 .sh b_law_number
def b_law_read_row : MS := (sSeq (sSet 1 (mBin splitD (mVar 0) (mC (.str " ")))) (sSeq (sSet 2 (mDisp [((mC (.str "begin")), (mC (.int 4))), ((mC (.str "rows")), (mC (.int 4))), ((mC (.str "step")), (mC (.int 2))), ((mC (.str "put")), (mC (.int 4)))])) (sSeq (sIf (mOr (mB (mDIn 0 2 true (mOp ixD (mV (mVar 1)) (mV (mC (.int 0)))))) (mB (mOp neD (mV (mB1 lenD (mConsB (mV (mVar 1)) mNilB))) (mV (mDGet 0 2 (mOp ixD (mV (mVar 1)) (mV (mC (.int 0))))))))) (sRet (mC .none)) sNx) (sSeq (sSet 3 (mLc (mIt (mSl (mV (mVar 1)) (mP1 (mC (.int 1))) mP0)) (gN 5) mYes (mCall F_law_number 1 (mCons (mVar 5) mNil)) [5])) (sSeq (sSet 4 (mAndV (mOp eqD (mV (mOp ixD (mV (mVar 1)) (mV (mC (.int 0))))) (mV (mC (.str "put")))) (mOp eqD (mV (mOp ixD (mV (mVar 1)) (mV (mC (.int 3))))) (mV (mC (.str "none")))))) (sSeq (sIf (mB (mOp inD (mV (mC .none)) (mV (mSl (mV (mVar 3)) mP0 (mP1 (mOp subI (mV (mB1 lenD (mConsB (mV (mVar 3)) mNilB))) (mV (mB1 intD (mConsB (mV (mVar 4)) mNilB))))))))) (sRet (mC .none)) sNx) (sSeq (sIf (mAnd (mB (mOp inD (mV (mOp ixD (mV (mVar 1)) (mV (mC (.int 0))))) (mV (mTup (mCons (mC (.str "begin")) (mCons (mC (.str "rows")) mNil)))))) (mOr (mB (mOp ltI (mV (mOp ixD (mV (mVar 3)) (mV (mC (.int 1))))) (mV (mC (.int 1))))) (mNot (mB (mChain leI ltI (mC (.int 0)) (mOp ixD (mV (mVar 3)) (mV (mC (.int 2)))) (mC (.int 251))))))) (sRet (mC .none)) sNx) (sRet (mOp addD (mV (mTup (mCons (mOp ixD (mV (mVar 1)) (mV (mC (.int 0)))) mNil))) (mV (mB1 tupleD (mConsB (mV (mVar 3)) mNilB))))))))))))
def F_law_read_row : FD := fnD 6 1 .sh b_law_read_row
def b_law_read : MS := (sSeq (sIf (mB (mOp eqD (mV (mVar 0)) (mV (mC (.str ""))))) (sRet (mLst mNil)) sNx) (sSeq (sSet 1 (mLc (mIt (mBin splitD (mVar 0) (mC (.str "\n")))) (gN 2) mYes (mCall F_law_read_row 1 (mCons (mVar 2) mNil)) [2])) (sRet (mIf (mB (mOp inDp (mV (mC .none)) (mV (mVar 1)))) (mC .none) (mVar 1)))))
def F_law_read : FD := fnD 3 1 .sh b_law_read
def b_law_text : MS := (sSeq (sSet 1 (mLst mNil)) (sSeq (sFor (mIt (mVar 0)) (gN 2) (sApp 1 (mBin joinT (mC (.str " ")) (mLc (mIt (mVar 2)) (gN 3) mYes (mIf (mB (mOp isN (mV (mVar 3)) (mV (mC .none)))) (mC (.str "none")) (mB1 strU (mConsB (mV (mVar 3)) mNilB))) [3])))) (sFrz 1 (sRet (mBin joinT (mC (.str "\n")) (mVar 1))))))
def F_law_text : FD := fnD 4 1 .sh b_law_text
def b_law_signs : MS := (sRet (mC (.str " !\"#$&'()*+,-./0123456789:;<=>?@ABCDEFGHIJKLMNOPQRSTUVWXYZ[\\]^_`abcdefghijklmnopqrstuvwxyz{|}~\n")))
def F_law_signs : FD := fnD 0 0 .sh b_law_signs
def b_law_sign_bent : MS := (sSeq (sSet 2 (mCall F_law_signs 0 mNil)) (sSeq (sSet 3 (mCall1 F_law_pick 1 0 (mCons (mOp addD (mV (mB1 lenD (mConsB (mV (mVar 1)) mNilB))) (mV (mC (.int 1)))) mNil))) (sSeq (sSet 4 (mOp ixD (mV (mVar 2)) (mV (mCall1 F_law_pick 1 0 (mCons (mC (.int 95)) mNil))))) (sSeq (sIf (mAnd (mB (mOp eqD (mV (mCall1 F_law_pick 1 0 (mCons (mC (.int 3)) mNil))) (mV (mC (.int 0))))) (mB (mOp neD (mV (mVar 1)) (mV (mC (.str "")))))) (sSet 4 (mOp ixD (mV (mVar 1)) (mV (mCall1 F_law_pick 1 0 (mCons (mB1 lenD (mConsB (mV (mVar 1)) mNilB)) mNil))))) sNx) (sRet (mOp addD (mV (mOp addD (mV (mSl (mV (mVar 1)) mP0 (mP1 (mVar 3)))) (mV (mOp ixD (mV (mLst (mCons (mVar 4) (mCons (mVar 4) (mCons (mC (.str "")) mNil))))) (mV (mCall1 F_law_pick 1 0 (mCons (mC (.int 3)) mNil))))))) (mV (mSl (mV (mVar 1)) (mP1 (mOp addD (mV (mVar 3)) (mV (mCall1 F_law_pick 1 0 (mCons (mC (.int 2)) mNil))))) mP0))))))))
def F_law_sign_bent : FD := fnD 5 2 .sh b_law_sign_bent
def b_law_list_bent : MS := (sSeq (sSet 2 (mCall1 F_law_pick 1 0 (mCons (mB1 lenD (mConsB (mV (mVar 1)) mNilB)) mNil))) (sSeq (sSet 3 (mOp ixD (mV (mVar 1)) (mV (mCall1 F_law_pick 1 0 (mCons (mB1 lenD (mConsB (mV (mVar 1)) mNilB)) mNil))))) (sSeq (sSet 4 (mCall1 F_law_pick 1 0 (mCons (mC (.int 5)) mNil))) (sSeq (sIf (mB (mOp eqD (mV (mVar 4)) (mV (mC (.int 0))))) (sRet (mOp addD (mV (mSl (mV (mVar 1)) mP0 (mP1 (mVar 2)))) (mV (mSl (mV (mVar 1)) (mP1 (mOp addD (mV (mVar 2)) (mV (mC (.int 1))))) mP0)))) sNx) (sSeq (sIf (mB (mOp eqD (mV (mVar 4)) (mV (mC (.int 1))))) (sRet (mOp addD (mV (mOp addD (mV (mSl (mV (mVar 1)) mP0 (mP1 (mVar 2)))) (mV (mLst (mCons (mVar 3) mNil))))) (mV (mSl (mV (mVar 1)) (mP1 (mVar 2)) mP0)))) sNx) (sSeq (sIf (mB (mOp eqD (mV (mVar 4)) (mV (mC (.int 2))))) (sRet (mOp addD (mV (mVar 1)) (mV (mLst (mCons (mVar 3) mNil))))) sNx) (sSeq (sIf (mB (mOp eqD (mV (mVar 4)) (mV (mC (.int 3))))) (sRet (mOp addD (mV (mOp addD (mV (mSl (mV (mVar 1)) mP0 (mP1 (mVar 2)))) (mV (mLst (mCons (mVar 3) mNil))))) (mV (mSl (mV (mVar 1)) (mP1 (mOp addD (mV (mVar 2)) (mV (mC (.int 1))))) mP0)))) sNx) (sSeq (sSet 5 (mOp addD (mV (mSl (mV (mVar 1)) (mP1 (mOp addD (mV (mVar 2)) (mV (mC (.int 1))))) (mP1 (mOp addD (mV (mVar 2)) (mV (mC (.int 2))))))) (mV (mSl (mV (mVar 1)) (mP1 (mVar 2)) (mP1 (mOp addD (mV (mVar 2)) (mV (mC (.int 1))))))))) (sRet (mOp addD (mV (mOp addD (mV (mSl (mV (mVar 1)) mP0 (mP1 (mVar 2)))) (mV (mVar 5)))) (mV (mSl (mV (mVar 1)) (mP1 (mOp addD (mV (mVar 2)) (mV (mC (.int 2))))) mP0))))))))))))
def F_law_list_bent : FD := fnD 6 2 .sh b_law_list_bent
def b_law_bent : MS := (sSeq (sSet 3 (mCall1 F_law_pick 1 0 (mCons (mOp addD (mV (mC (.int 3))) (mV (mB1 lenD (mConsB (mV (mVar 2)) mNilB)))) mNil))) (sSeq (sIf (mB (mOp ltI (mV (mVar 3)) (mV (mC (.int 3))))) (sRet (mCall1 F_law_sign_bent 1 0 (mCons (mVar 1) mNil))) sNx) (sSeq (sSet 4 (mOp ixD (mV (mVar 2)) (mV (mOp subI (mV (mVar 3)) (mV (mC (.int 3))))))) (sRet (mBin joinT (mVar 4) (mCall1 F_law_list_bent 1 0 (mCons (mBin splitD (mVar 1) (mVar 4)) mNil)))))))
def F_law_bent : FD := fnD 5 3 .sh b_law_bent
def b_number_of : MS := (sSeq (sSet 1 (mVar 0)) (sSeq (sIf (mB (mOp eqD (mV (mSl (mV (mVar 0)) mP0 (mP1 (mC (.int 1))))) (mV (mC (.str "-"))))) (sSet 1 (mSl (mV (mVar 0)) (mP1 (mC (.int 1))) mP0)) sNx) (sSeq (sIf (mOr (mNot (mB (mChain leI leI (mC (.int 1)) (mB1 lenD (mConsB (mV (mVar 1)) mNilB)) (mC (.int 60))))) (mB (mOp neD (mV (mLc (mItS (mVar 1)) (gN 2) (mB (mOp notInSg (mV (mVar 2)) (mV (mC (.str "0123456789"))))) (mVar 2) [2])) (mV (mLst mNil))))) (sRet (mC .none)) sNx) (sSeq (sIf (mAnd (mB (mOp eqD (mV (mOp ixD (mV (mVar 1)) (mV (mC (.int 0))))) (mV (mC (.str "0"))))) (mB (mOp neD (mV (mVar 0)) (mV (mC (.str "0")))))) (sRet (mC .none)) sNx) (sRet (mB1 intS (mConsB (mV (mVar 0)) mNilB)))))))
def F_number_of : FD := fnD 3 1 .sh b_number_of
def b_read_deed : MS := (sSeq (sSet 1 (mBin splitD (mVar 0) (mC (.str " ")))) (sSeq (sIf (mB (mOp neD (mV (mBin (kget2D [("begin", 3), ("rows", 3), ("step", 1), ("put", 3)]) (mOp ixD (mV (mVar 1)) (mV (mC (.int 0)))) (mUn negI (mV (mC (.int 1)))))) (mV (mOp subI (mV (mB1 lenD (mConsB (mV (mVar 1)) mNilB))) (mV (mC (.int 1))))))) (sRaise "NoText") sNx) (sSeq (sSet 2 (mLc (mIt (mSl (mV (mVar 1)) (mP1 (mC (.int 1))) mP0)) (gN 3) mYes (mCall F_number_of 1 (mCons (mVar 3) mNil)) [3])) (sSeq (sIf (mAnd (mB (mOp eqD (mV (mOp ixD (mV (mVar 1)) (mV (mC (.int 0))))) (mV (mC (.str "put"))))) (mB (mOp eqD (mV (mOp ixD (mV (mVar 1)) (mV (mC (.int 3))))) (mV (mC (.str "none")))))) (sPut 2 (mC (.int 2)) (mC (.int 0))) sNx) (sSeq (sIf (mB (mOp inD (mV (mC .none)) (mSlot 2))) (sRaise "NoText") sNx) (sSeq (sIf (mAnd (mB (mOp inD (mV (mOp ixD (mV (mVar 1)) (mV (mC (.int 0))))) (mV (mTup (mCons (mC (.str "begin")) (mCons (mC (.str "rows")) mNil)))))) (mNot (mAnd (mB (mOp geI (mV (mOp ixD (mSlot 2) (mV (mC (.int 1))))) (mV (mC (.int 1))))) (mB (mChain leI leI (mC (.int 0)) (mOp ixD (mSlot 2) (mV (mC (.int 2)))) (mC (.int 250))))))) (sRaise "NoText") sNx) (sSeq (sIf (mAnd (mB (mOp eqD (mV (mOp ixD (mV (mVar 1)) (mV (mC (.int 0))))) (mV (mC (.str "put"))))) (mB (mOp eqD (mV (mOp ixD (mV (mVar 1)) (mV (mC (.int 3))))) (mV (mC (.str "none")))))) (sPut 2 (mC (.int 2)) (mC .none)) sNx) (sRet (mB1 tupleD (mConsB (mV (mOp addD (mV (mLst (mCons (mOp ixD (mV (mVar 1)) (mV (mC (.int 0)))) mNil))) (mSlot 2))) mNilB))))))))))
def F_read_deed : FD := fnD 4 1 .sh b_read_deed
def b_read_deeds : MS := (sSeq (sIf (mB (mOp eqD (mV (mVar 0)) (mV (mC (.str ""))))) (sRet (mLst mNil)) sNx) (sRetX (xLcE (mIt (mBin splitD (mVar 0) (mC (.str "\n")))) (gN 1) (xCall F_read_deed 1 (mCons (mVar 1) mNil)) [1])))
def F_read_deeds : FD := fnD 2 1 (.ls .sh) b_read_deeds
def b_law_name_of (x : Xc) : MS := (sSeq (sSet 1 (mLst (mCons (hereM 0 ((tbl_NoFigure x.c).map .bool)) (mCons (hereM 0 ((tbl_NoLooks x.c).map .bool)) (mCons (hereM 0 ((tbl_NoRoom x.c).map .bool)) (mCons (hereM 0 ((tbl_NoRow x.c).map .bool)) mNil)))))) (sSeq (sSet 1 (mOp addD (mV (mVar 1)) (mV (mLst (mCons (hereM 0 ((tbl_NoTable x.c).map .bool)) (mCons (hereM 0 ((tbl_NoText x.c).map .bool)) (mCons (hereM 0 ((tbl_Spoilt x.c).map .bool)) (mCons (hereM 0 ((tbl_NoMore x.c).map .bool)) mNil)))))))) (sSeq (sSet 1 (mOp addD (mV (mVar 1)) (mV (mLst (mCons (hereM 0 ((tbl_NoWork x.c).map .bool)) (mCons (hereM 0 ((tbl_NoCell x.c).map .bool)) (mCons (hereM 0 ((tbl_NoDeed x.c).map .bool)) (mCons (hereM 0 ((tbl_ValueError x.c).map .bool)) mNil)))))))) (sSeq (sSet 2 (mLst (mCons (mC (.str "NoFigure")) (mCons (mC (.str "NoLooks")) (mCons (mC (.str "NoRoom")) (mCons (mC (.str "NoRow")) (mCons (mC (.str "NoTable")) (mCons (mC (.str "NoText")) (mCons (mC (.str "Spoilt")) (mCons (mC (.str "NoMore")) (mCons (mC (.str "NoWork")) (mCons (mC (.str "NoCell")) mNil)))))))))))) (sRet (mJoin "" (mLc (mZip1 (mCons (mOp addD (mV (mVar 2)) (mV (mLst (mCons (mC (.str "NoDeed")) (mCons (mC (.str "+")) mNil))))) (mCons (mVar 1) mNil))) (gT 2 (gC (gN 3) (gC (gN 4) gE))) (mB (mVar 4)) (mVar 3) [3, 4])))))))
def b_law_told : MS := (sSeq (sSet 1 (mC .none)) (sSeq (sSet 2 (mC (.str ""))) (sSeq (sTryAs 3 subc_SlackError (sSeq (sSetX 1 (xCall F_read_deeds 1 (mCons (mVar 0) mNil))) (sWhen 1 yesD sNx)) (fun x => (sSeq (sSet 2 (hereM 3 ((nmT x.c).map .str))) (sWhen 1 nonB sNx)))) (sRet (mTupG [some (1, true), none] (mCons (mAt 1) (mCons (mVar 2) mNil)))))))
def F_law_told : FD := fnD 4 1 (tcs [(.op (.ls .sh)), .sh]) b_law_told
def b_law : MS := (sSeq (sSet 1 (mCall F_law_deck 2 (mCons (mOp ixD (mV (mOp addD (mV (mVar 0)) (mV (mLst (mCons (mC (.int 0)) mNil))))) (mV (mC (.int 0)))) (mCons (mC (.int 0)) mNil)))) (sSeq (sSet 2 (mCall1 F_law_deeds 0 1 mNil)) (sSeq (sSet 3 (mB1 listD (mConsB (mV (mVar 2)) mNilB))) (sSeq (sSet 4 (mCall F_show_deeds 1 (mCons (mVar 3) mNil))) (sSeq (sIf (mOr (mNot (mB (mUn (fun d => some (.bool (isiB "str" d))) (mV (mVar 4))))) (mOr (mB (mOp neD (mV (mVar 4)) (mV (mCall F_law_text 1 (mCons (mVar 2) mNil))))) (mB (mOp neD (mV (mVar 3)) (mV (mVar 2)))))) (sRet (mC (.bool false))) sNx) (sSeq (sFor (mIt (mOp addD (mV (mSl (mV (mVar 0)) (mP1 (mC (.int 1))) (mP1 (mC (.int 17))))) (mV (mLst (mCons (mC (.int 0)) mNil))))) (gN 5) (sSeq (sSet 1 (mCall F_law_deck 2 (mCons (mVar 5) (mCons (mC (.int 7900)) mNil)))) (sSeq (sSet 6 (mVar 4)) (sSeq (sFor (mR1 (mCons (mCall1 F_law_pick 1 1 (mCons (mC (.int 4)) mNil)) mNil)) (gN 7) (sSet 6 (mCall1 F_law_bent 2 1 (mCons (mVar 6) (mCons (mLst (mCons (mC (.str " ")) (mCons (mC (.str "\n")) mNil))) mNil))))) (sSeq (sSet 8 (mCall F_law_read 1 (mCons (mVar 6) mNil))) (sFor (mR1 (mCons (mC (.int 2)) mNil)) (gN 7) (sSeq (sAsgT [9, 10] (mCall F_law_told 1 (mCons (mVar 6) mNil))) (sIf (mB (mOp isN (mV (mVar 8)) (mV (mC .none)))) (sWhen 9 nonB (sIf (mOr (mB (mOp notN (mV (mVar 9)) (mV (mC .none)))) (mB (mOp neD (mV (mVar 10)) (mV (mC (.str "NoText+")))))) (sRet (mC (.bool false))) sNx)) (sWhen 9 notNon (sSeq (sIf (mOr (mB (mOp neD (mV (mVar 10)) (mV (mC (.str ""))))) (mOr (mNot (mB (mUn (fun d => some (.bool (isiB "list" d))) (mSlot 9)))) (mB (mOp neD (mSlot 9) (mV (mVar 8)))))) (sRet (mC (.bool false))) sNx) (sSeq (sApp 9 (mC .none)) (sFrz 9 sNx)))))))))))) (sSeq (sFor (mIt (mLst (mCons (mOp addD (mV (mVar 4)) (mV (mC (.str "\n")))) (mCons (mC (.str "x")) (mCons (mC (.str "put")) mNil))))) (gN 6) (sIf (mB (mOp neD (mV (mCall F_law_told 1 (mCons (mVar 6) mNil))) (mV (mTup (mCons (mC .none) (mCons (mC (.str "NoText+")) mNil)))))) (sRet (mC (.bool false))) sNx)) (sRet (mC (.bool true))))))))))
def F_law : FD := fnD 11 1 .sh b_law
def bts : List Str := ["ValueError", "int", "isinstance", "len", "list", "range", "str", "tuple", "zip"]
section
variable {P : Program} {w : World} {K : Fg} {mg : Str → Option Value} {base : Heap}
theorem sc_law_deck : FnScope ["cell", "turn"] ["cell", "turn"] (defScope s_law_deck) := ⟨rfl, rfl, rfl, by decide +kernel, rfl, by decide +kernel, by decide +kernel⟩
theorem ok_law_deck {f : Addr} {fd : FuncData}  (F : FnP K "_law_deck" s_law_deck f fd) (hB : ∀ x ∈ bts, mg x = none)      : FnOk P w K mg base CX0 1 f fd ["cell", "turn"] (spD K mg F_law_deck [.sh, .sh] (.ls .sh)) := by
  show FnOk P w K mg base CX0 (0 + 1) f fd ["cell", "turn"] (spD K mg (fnD 2 2 (.ls .sh) b_law_deck) [.sh, .sh] (.ls .sh))
  refine fn_ok (k := 0) (ps := [.sh, .sh]) (rk := (.ls .sh)) (b := b_law_deck) (O1 := []) (N := ["cell", "turn"]) F sc_law_deck rfl (of_decide_eq_true rfl) (fun cdv A outer s H E hr => ⟨_, (pss_cons (ps_if (pt_cmpR op_ge (pv 0) (pe_op op_pow pe_int pe_int) (nomark _)) (pss_one (ps_ret (pe_lst (pa_cons (pe_op op_sub (pv 0) (pe_op op_pow pe_int pe_int)) (pa_cons (pe_op op_mod (pv 0) pe_int) (pa_cons (pv 1) pa_nil)))))) pss_nil) (pss_one (ps_ret (pe_lst (pa_cons pe_int (pa_cons (pe_op op_mod (pv 0) pe_int) (pa_cons (pv 1) pa_nil))))))), fun c hps hrk hmg => ?_⟩)
  show DC K c [] [.sh, .sh] _ b_law_deck _
  exact (c_cons (c_if (d_test (d_op g_ge (DE.b (d_var 0)) (DE.b (d_op g_pow (DE.b d_int) (DE.b d_int))))) (c_retO (o_lst (da_cons (d_op g_sub (DE.b (d_var 0)) (DE.b (d_op g_pow (DE.b d_int) (DE.b d_int)))) (da_cons (d_op g_mod (DE.b (d_var 0)) (DE.b d_int)) (da_cons (d_var 1) da_nil)))) hrk) c_nil) (c_retO (o_lst (da_cons d_int (da_cons (d_op g_mod (DE.b (d_var 0)) (DE.b d_int)) (da_cons (d_var 1) da_nil)))) hrk))
theorem sc_law_pick : FnScope ["deck", "many", "number", "found"] ["deck", "many"] (defScope s_law_pick) := ⟨rfl, rfl, rfl, by decide +kernel, rfl, by decide +kernel, by decide +kernel⟩
theorem ok_law_pick {f : Addr} {fd : FuncData}  (F : FnP K "_law_pick" s_law_pick f fd) (hB : ∀ x ∈ bts, mg x = none)      : FnOk P w K mg base CX0 1 f fd ["deck", "many"] (spD K mg F_law_pick [(.pm (.ls .sh)), .sh] .sh) := by
  show FnOk P w K mg base CX0 (0 + 1) f fd ["deck", "many"] (spD K mg (fnD 4 2 .sh b_law_pick) [(.pm (.ls .sh)), .sh] .sh)
  refine fn_ok (k := 0) (ps := [(.pm (.ls .sh)), .sh]) (rk := .sh) (b := b_law_pick) (O1 := []) (N := ["deck", "many", "number", "found"]) F sc_law_pick rfl (of_decide_eq_true rfl) (fun cdv A outer s H E hr => ⟨_, (pss_cons (ps_if (pt_cmpR op_gt (pe_ix ix_seq (pv 0) pe_int (fun _ _ => rfl)) pe_int (nomark _)) (pss_cons (ps_set (i := 3) sc_law_pick.nd rfl (by first | exact Or.inl rfl | exact Or.inr rfl) (pe_op op_mod (pe_ix ix_seq (pv 0) pe_int (fun _ _ => rfl)) (pv 1))) (pss_cons (ps_asg (pe_op op_fdivW (pe_ix ix_seq (pv 0) pe_int (fun _ _ => rfl)) (pv 1)) (pg_sub (pv 0) pe_int set_list)) (pss_one (ps_ret (pv 3))))) pss_nil) (pss_cons (ps_asg (pe_op op_addU (pe_ix ix_seq (pv 0) pe_int (fun _ _ => rfl)) pe_int) (pg_sub (pv 0) pe_int set_list)) (pss_cons (ps_set (i := 2) sc_law_pick.nd rfl (by first | exact Or.inl rfl | exact Or.inr rfl) (pe_op op_mod (pe_op op_pow (pe_op op_addU (pe_ix ix_seq (pv 0) pe_int (fun _ _ => rfl)) (pe_op op_mulX pe_int (pe_ix ix_seq (pv 0) pe_int (fun _ _ => rfl)))) pe_int) pe_int)) (pss_cons (ps_set (i := 3) sc_law_pick.nd rfl (by first | exact Or.inl rfl | exact Or.inr rfl) (pe_op op_fdivW (pe_op op_mod (pe_op op_pow (pe_op op_addU (pv 2) (pe_op op_mulX pe_int (pe_ix ix_seq (pv 0) pe_int (fun _ _ => rfl)))) pe_int) pe_int) pe_int)) (pss_cons (ps_if (pt_cmpR op_gt (pv 1) pe_int (nomark _)) (pss_one (ps_ret (pe_op op_mod (pe_op op_addU (pe_op op_mulX (pv 3) pe_int) (pv 2)) (pv 1)))) pss_nil) (pss_one (ps_ret (pe_op op_mod (pv 3) (pv 1))))))))), fun c hps hrk hmg => ?_⟩)
  show DC K c [] [(.pm (.ls .sh)), .sh, .sh, .sh] _ b_law_pick _
  exact (c_cons (c_if (d_test (d_op g_gt (DE.b (d_op g_ix (d_slot 0) (DE.b d_int))) (DE.b d_int))) (c_cons (c_set 3 (d_op g_mod (DE.b (d_op g_ix (d_slot 0) (DE.b d_int))) (DE.b (d_var 1)))) (c_cons (c_put 0 (d_op g_div (DE.b (d_op g_ix (d_slot 0) (DE.b d_int))) (DE.b (d_var 1))) d_int) (c_ret (d_var 3) hrk))) c_nil) (c_cons (c_put 0 (d_op g_add (DE.b (d_op g_ix (d_slot 0) (DE.b d_int))) (DE.b d_int)) d_int) (c_cons (c_set 2 (d_op g_mod (DE.b (d_op g_pow (DE.b (d_op g_add (DE.b (d_op g_ix (d_slot 0) (DE.b d_int))) (DE.b (d_op g_mul (DE.b d_int) (DE.b (d_op g_ix (d_slot 0) (DE.b d_int))))))) (DE.b d_int))) (DE.b d_int))) (c_cons (c_set 3 (d_op g_div (DE.b (d_op g_mod (DE.b (d_op g_pow (DE.b (d_op g_add (DE.b (d_var 2)) (DE.b (d_op g_mul (DE.b d_int) (DE.b (d_op g_ix (d_slot 0) (DE.b d_int))))))) (DE.b d_int))) (DE.b d_int))) (DE.b d_int))) (c_cons (c_if (d_test (d_op g_gt (DE.b (d_var 1)) (DE.b d_int))) (c_ret (d_op g_mod (DE.b (d_op g_add (DE.b (d_op g_mul (DE.b (d_var 3)) (DE.b d_int))) (DE.b (d_var 2)))) (DE.b (d_var 1))) hrk) c_nil) (c_ret (d_op g_mod (DE.b (d_var 3)) (DE.b (d_var 1))) hrk))))))
theorem sc_law_great : FnScope ["deck", "figures", "size", "turn", "found"] ["deck", "figures"] (defScope s_law_great) := ⟨rfl, rfl, rfl, by decide +kernel, rfl, by decide +kernel, by decide +kernel⟩
theorem ok_law_great {f : Addr} {fd : FuncData}  (F : FnP K "_law_great" s_law_great f fd) (hB : ∀ x ∈ bts, mg x = none)     (h_law_pick : Fk P w K mg base "_law_pick" 1 ["deck", "many"] (spD K mg F_law_pick [(.pm (.ls .sh)), .sh] .sh)) : FnOk P w K mg base CX0 2 f fd ["deck", "figures"] (spD K mg F_law_great [(.pm (.ls .sh)), .sh] .sh) := by
  obtain ⟨_, _, G_law_pick, mg_law_pick, kp_law_pick, bi_law_pick⟩ := h_law_pick
  show FnOk P w K mg base CX0 (1 + 1) f fd ["deck", "figures"] (spD K mg (fnD 5 2 .sh b_law_great) [(.pm (.ls .sh)), .sh] .sh)
  refine fn_ok (k := 1) (ps := [(.pm (.ls .sh)), .sh]) (rk := .sh) (b := b_law_great) (O1 := []) (N := ["deck", "figures", "size", "turn", "found"]) F sc_law_great rfl (of_decide_eq_true rfl) (fun cdv A outer s H E hr => ⟨_, (pss_cons (ps_set (i := 2) sc_law_great.nd rfl (by first | exact Or.inl rfl | exact Or.inr rfl) pe_int) (pss_cons (ps_for PassesOwn.never rfl (pi_range1 rfl (hB "range" (by decide +kernel)) (pa_cons (pe_call G_law_pick (hr.mono (by decide)) rfl mg_law_pick kp_law_pick bi_law_pick .nil pass0 (pa_cons (pv 0) (pa_cons (pe_op op_addU (pv 1) pe_int) pa_nil))) pa_nil)) (pg_name (i := 3) sc_law_great.nd rfl (by first | exact Or.inl rfl | exact Or.inr rfl)) (pss_one (ps_set (i := 2) sc_law_great.nd rfl (by first | exact Or.inl rfl | exact Or.inr rfl) (pe_op op_mulX (pv 2) pe_int)))) (pss_cons (ps_set (i := 4) sc_law_great.nd rfl (by first | exact Or.inl rfl | exact Or.inr rfl) pe_int) (pss_cons (ps_for PassesOwn.never rfl (pi_range1 rfl (hB "range" (by decide +kernel)) (pa_cons pe_int pa_nil)) (pg_name (i := 3) sc_law_great.nd rfl (by first | exact Or.inl rfl | exact Or.inr rfl)) (pss_one (ps_set (i := 4) sc_law_great.nd rfl (by first | exact Or.inl rfl | exact Or.inr rfl) (pe_op op_addU (pe_op op_mulX (pv 4) (pe_op op_pow pe_int pe_int)) (pe_call G_law_pick (hr.mono (by decide)) rfl mg_law_pick kp_law_pick bi_law_pick .nil pass0 (pa_cons (pv 0) (pa_cons (pe_op op_pow pe_int pe_int) pa_nil))))))) (pss_one (ps_ret (pe_op op_mod (pv 4) (pv 2)))))))), fun c hps hrk hmg => ?_⟩)
  show DC K c [] [(.pm (.ls .sh)), .sh, .sh, .sh, .sh] _ b_law_great _
  exact (c_cons (c_set 2 d_int) (c_cons (c_for (i_r1 (da_cons (DO.sh (o_call1 0 (k := .ls .sh) (da_cons (d_op g_add (DE.b (d_var 1)) (DE.b d_int)) da_nil) (.inr rfl))) da_nil)) (g_name 3) (c_set 2 (d_op g_mul (DE.b (d_var 2)) (DE.b d_int)))) (c_cons (c_set 4 d_int) (c_cons (c_for (i_r1 (da_cons d_int da_nil)) (g_name 3) (c_set 4 (d_op g_add (DE.b (d_op g_mul (DE.b (d_var 4)) (DE.b (d_op g_pow (DE.b d_int) (DE.b d_int))))) (DE.b (DO.sh (o_call1 0 (k := .ls .sh) (da_cons (d_op g_pow (DE.b d_int) (DE.b d_int)) da_nil) (.inr rfl))))))) (c_ret (d_op g_mod (DE.b (d_var 4)) (DE.b (d_var 2))) hrk)))))
theorem sc_law_deeds : FnScope ["deck", "deeds", "k", "kind", "far", "many"] ["deck"] (defScope s_law_deeds) := ⟨rfl, rfl, rfl, by decide +kernel, rfl, by decide +kernel, by decide +kernel⟩
theorem ok_law_deeds {f : Addr} {fd : FuncData}  (F : FnP K "_law_deeds" s_law_deeds f fd) (hB : ∀ x ∈ bts, mg x = none)     (h_law_pick : Fk P w K mg base "_law_pick" 1 ["deck", "many"] (spD K mg F_law_pick [(.pm (.ls .sh)), .sh] .sh)) (h_law_great : Fk P w K mg base "_law_great" 2 ["deck", "figures"] (spD K mg F_law_great [(.pm (.ls .sh)), .sh] .sh)) : FnOk P w K mg base CX0 3 f fd ["deck"] (spD K mg F_law_deeds [(.pm (.ls .sh))] .sh) := by
  obtain ⟨_, _, G_law_pick, mg_law_pick, kp_law_pick, bi_law_pick⟩ := h_law_pick
  obtain ⟨_, _, G_law_great, mg_law_great, kp_law_great, bi_law_great⟩ := h_law_great
  show FnOk P w K mg base CX0 (2 + 1) f fd ["deck"] (spD K mg (fnD 6 1 .sh b_law_deeds) [(.pm (.ls .sh))] .sh)
  refine fn_ok (k := 2) (ps := [(.pm (.ls .sh))]) (rk := .sh) (b := b_law_deeds) (O1 := []) (N := ["deck", "deeds", "k", "kind", "far", "many"]) F sc_law_deeds rfl (of_decide_eq_true rfl) (fun cdv A outer s H E hr => ⟨_, (pss_cons (ps_set (i := 1) sc_law_deeds.nd rfl (by first | exact Or.inl rfl | exact Or.inr rfl) (pe_lst pa_nil)) (pss_cons (ps_for PassesOwn.never rfl (pi_range1 rfl (hB "range" (by decide +kernel)) (pa_cons (pe_ix ix_seq (pe_lst (pa_cons (pe_call G_law_pick (hr.mono (by decide)) rfl mg_law_pick kp_law_pick bi_law_pick .nil pass0 (pa_cons (pv 0) (pa_cons pe_int pa_nil))) (pa_cons pe_int pa_nil))) (pe_callTy call_int1 rfl (hB "int" (by decide +kernel)) bt_int (pa_cons (pe_cmpR (op_eqD hr.units) (pe_call G_law_pick (hr.mono (by decide)) rfl mg_law_pick kp_law_pick bi_law_pick .nil pass0 (pa_cons (pv 0) (pa_cons pe_int pa_nil))) pe_int (nomark _)) pa_nil)) (fun _ _ => rfl)) pa_nil)) (pg_name (i := 2) sc_law_deeds.nd rfl (by first | exact Or.inl rfl | exact Or.inr rfl)) (pss_cons (ps_set (i := 3) sc_law_deeds.nd rfl (by first | exact Or.inl rfl | exact Or.inr rfl) (pe_call G_law_pick (hr.mono (by decide)) rfl mg_law_pick kp_law_pick bi_law_pick .nil pass0 (pa_cons (pv 0) (pa_cons pe_int pa_nil)))) (pss_cons (ps_set (i := 4) sc_law_deeds.nd rfl (by first | exact Or.inl rfl | exact Or.inr rfl) (pe_op op_mulX (pe_ix ix_seq (pe_lst (pa_cons (pe_call G_law_great (hr.mono (by decide)) rfl mg_law_great kp_law_great bi_law_great .nil pass0 (pa_cons (pv 0) (pa_cons pe_int pa_nil))) (pa_cons (pe_call G_law_pick (hr.mono (by decide)) rfl mg_law_pick kp_law_pick bi_law_pick .nil pass0 (pa_cons (pv 0) (pa_cons pe_int pa_nil))) (pa_cons pe_int pa_nil)))) (pe_call G_law_pick (hr.mono (by decide)) rfl mg_law_pick kp_law_pick bi_law_pick .nil pass0 (pa_cons (pv 0) (pa_cons pe_int pa_nil))) (fun _ _ => rfl)) (pe_ix ix_seq (pe_lst (pa_cons pe_int (pa_cons (pe_un un_neg pe_int) pa_nil))) (pe_call G_law_pick (hr.mono (by decide)) rfl mg_law_pick kp_law_pick bi_law_pick .nil pass0 (pa_cons (pv 0) (pa_cons pe_int pa_nil))) (fun _ _ => rfl)))) (pss_one (ps_if (pt_cmpR op_lt (pv 3) pe_int (nomark _)) (pss_cons (ps_set (i := 5) sc_law_deeds.nd rfl (by first | exact Or.inl rfl | exact Or.inr rfl) (pe_ix ix_seq (pe_lst (pa_cons (pe_call G_law_pick (hr.mono (by decide)) rfl mg_law_pick kp_law_pick bi_law_pick .nil pass0 (pa_cons (pv 0) (pa_cons pe_int pa_nil))) (pa_cons pe_int (pa_cons pe_int pa_nil)))) (pe_call G_law_pick (hr.mono (by decide)) rfl mg_law_pick kp_law_pick bi_law_pick .nil pass0 (pa_cons (pv 0) (pa_cons pe_int pa_nil))) (fun _ _ => rfl))) (pss_one (ps_expr (pe_bm PySem.F.plainAttrs_list PySem.F.slot_list_append PySem.F.type_list_append mt_append (pv 1) (pa_cons (pe_tup (pa_cons (pe_ix ix_seq (pe_lst (pa_cons pe_str (pa_cons pe_str pa_nil))) (pv 3) (fun _ _ => rfl)) (pa_cons (pv 4) (pa_cons (pe_op op_addU pe_int (pe_call G_law_pick (hr.mono (by decide)) rfl mg_law_pick kp_law_pick bi_law_pick .nil pass0 (pa_cons (pv 0) (pa_cons (pe_op op_pow pe_int pe_int) pa_nil)))) (pa_cons (pv 5) pa_nil))))) pa_nil))))) (pss_one (ps_if (pt_cmpR op_lt (pv 3) pe_int (nomark _)) (pss_one (ps_expr (pe_bm PySem.F.plainAttrs_list PySem.F.slot_list_append PySem.F.type_list_append mt_append (pv 1) (pa_cons (pe_tup (pa_cons pe_str (pa_cons (pe_ix ix_seq (pe_lst (pa_cons (pe_call G_law_pick (hr.mono (by decide)) rfl mg_law_pick kp_law_pick bi_law_pick .nil pass0 (pa_cons (pv 0) (pa_cons pe_int pa_nil))) (pa_cons (pv 4) pa_nil))) (pe_call G_law_pick (hr.mono (by decide)) rfl mg_law_pick kp_law_pick bi_law_pick .nil pass0 (pa_cons (pv 0) (pa_cons pe_int pa_nil))) (fun _ _ => rfl)) pa_nil))) pa_nil)))) (pss_one (ps_expr (pe_bm PySem.F.plainAttrs_list PySem.F.slot_list_append PySem.F.type_list_append mt_append (pv 1) (pa_cons (pe_tup (pa_cons pe_str (pa_cons (pe_call G_law_pick (hr.mono (by decide)) rfl mg_law_pick kp_law_pick bi_law_pick .nil pass0 (pa_cons (pv 0) (pa_cons pe_int pa_nil))) (pa_cons (pv 4) (pa_cons (pe_ix ix_seq (pe_lst (pa_cons pe_non (pa_cons (pe_op op_sub pe_int (pe_call G_law_pick (hr.mono (by decide)) rfl mg_law_pick kp_law_pick bi_law_pick .nil pass0 (pa_cons (pv 0) (pa_cons pe_int pa_nil)))) pa_nil))) (pe_call G_law_pick (hr.mono (by decide)) rfl mg_law_pick kp_law_pick bi_law_pick .nil pass0 (pa_cons (pv 0) (pa_cons pe_int pa_nil))) (fun _ _ => rfl)) pa_nil))))) pa_nil))))))))))) (pss_one (ps_ret (pv 1))))), fun c hps hrk hmg => ?_⟩)
  show DC K c [] [(.pm (.ls .sh)), .sh, .sh, .sh, .sh, .sh] _ b_law_deeds _
  exact (c_cons (c_setO 1 (o_lst da_nil)) (c_cons (c_for (i_r1 (da_cons (d_op g_ix (DE.b (d_lst (da_cons (DO.sh (o_call1 0 (k := .ls .sh) (da_cons d_int da_nil) (.inr rfl))) (da_cons d_int da_nil)))) (DE.b (d_cb g_toint (dab_cons (DE.b (d_op g_eq (DE.b (DO.sh (o_call1 0 (k := .ls .sh) (da_cons d_int da_nil) (.inr rfl)))) (DE.b d_int))) dab_nil)))) da_nil)) (g_name 2) (c_cons (c_set 3 (DO.sh (o_call1 0 (k := .ls .sh) (da_cons d_int da_nil) (.inr rfl)))) (c_cons (c_set 4 (d_op g_mul (DE.b (d_op g_ix (DE.b (d_lst (da_cons (DO.sh (o_call1 0 (k := .ls .sh) (da_cons d_int da_nil) (.inr rfl))) (da_cons (DO.sh (o_call1 0 (k := .ls .sh) (da_cons d_int da_nil) (.inr rfl))) (da_cons d_int da_nil))))) (DE.b (DO.sh (o_call1 0 (k := .ls .sh) (da_cons d_int da_nil) (.inr rfl)))))) (DE.b (d_op g_ix (DE.b (d_lst (da_cons d_int (da_cons (d_un g_neg (DE.b d_int)) da_nil)))) (DE.b (DO.sh (o_call1 0 (k := .ls .sh) (da_cons d_int da_nil) (.inr rfl)))))))) (c_if (d_test (d_op g_lt (DE.b (d_var 3)) (DE.b d_int))) (c_cons (c_set 5 (d_op g_ix (DE.b (d_lst (da_cons (DO.sh (o_call1 0 (k := .ls .sh) (da_cons d_int da_nil) (.inr rfl))) (da_cons d_int (da_cons d_int da_nil))))) (DE.b (DO.sh (o_call1 0 (k := .ls .sh) (da_cons d_int da_nil) (.inr rfl)))))) (c_app 1 (d_tup (da_cons (d_op g_ix (DE.b (d_lst (da_cons d_str (da_cons d_str da_nil)))) (DE.b (d_var 3))) (da_cons (d_var 4) (da_cons (d_op g_add (DE.b d_int) (DE.b (DO.sh (o_call1 0 (k := .ls .sh) (da_cons (d_op g_pow (DE.b d_int) (DE.b d_int)) da_nil) (.inr rfl))))) (da_cons (d_var 5) da_nil))))))) (c_if (d_test (d_op g_lt (DE.b (d_var 3)) (DE.b d_int))) (c_app 1 (d_tup (da_cons d_str (da_cons (d_op g_ix (DE.b (d_lst (da_cons (DO.sh (o_call1 0 (k := .ls .sh) (da_cons d_int da_nil) (.inr rfl))) (da_cons (d_var 4) da_nil)))) (DE.b (DO.sh (o_call1 0 (k := .ls .sh) (da_cons d_int da_nil) (.inr rfl))))) da_nil)))) (c_app 1 (d_tup (da_cons d_str (da_cons (DO.sh (o_call1 0 (k := .ls .sh) (da_cons d_int da_nil) (.inr rfl))) (da_cons (d_var 4) (da_cons (d_op g_ix (DE.b (d_lst (da_cons d_non (da_cons (d_op g_sub (DE.b d_int) (DE.b (DO.sh (o_call1 0 (k := .ls .sh) (da_cons d_int da_nil) (.inr rfl))))) da_nil)))) (DE.b (DO.sh (o_call1 0 (k := .ls .sh) (da_cons d_int da_nil) (.inr rfl))))) da_nil))))))))))) (c_frz 1 rfl (c_ret (d_var 1) hrk))))
theorem sc_word_of : FnScope ["part"] ["part"] (defScope s_word_of) := ⟨rfl, rfl, rfl, by decide +kernel, rfl, by decide +kernel, by decide +kernel⟩
theorem ok_word_of {f : Addr} {fd : FuncData}  (F : FnP K "word_of" s_word_of f fd) (hB : ∀ x ∈ bts, mg x = none)      : FnOk P w K mg base CX0 1 f fd ["part"] (spD K mg F_word_of [.sh] .sh) := by
  show FnOk P w K mg base CX0 (0 + 1) f fd ["part"] (spD K mg (fnD 1 1 .sh b_word_of) [.sh] .sh)
  refine fn_ok (k := 0) (ps := [.sh]) (rk := .sh) (b := b_word_of) (O1 := []) (N := ["part"]) F sc_word_of rfl (of_decide_eq_true rfl) (fun cdv A outer s H E hr => ⟨_, (pss_cons (ps_if (pt_cmpR op_isN (pv 0) pe_non (nomark _)) (pss_one (ps_ret pe_str)) pss_nil) (pss_one (ps_ret (pe_callTy call_strU rfl (hB "str" (by decide +kernel)) bt_str (pa_cons (pv 0) pa_nil))))), fun c hps hrk hmg => ?_⟩)
  show DC K c [] [.sh] _ b_word_of _
  exact (c_cons (c_if (d_test (d_op g_isN (DE.b (d_var 0)) (DE.b d_non))) (c_ret d_str hrk) c_nil) (c_ret (d_cb g_strU (dab_cons (DE.b (d_var 0)) dab_nil)) hrk))
theorem sc_show_deeds : FnScope ["deeds", "deed", "part"] ["deeds"] (defScope s_show_deeds) := ⟨rfl, rfl, rfl, by decide +kernel, rfl, by decide +kernel, by decide +kernel⟩
theorem ok_show_deeds {f : Addr} {fd : FuncData}  (F : FnP K "show_deeds" s_show_deeds f fd) (hB : ∀ x ∈ bts, mg x = none)     (h_word_of : Fk P w K mg base "word_of" 1 ["part"] (spD K mg F_word_of [.sh] .sh)) : FnOk P w K mg base CX0 2 f fd ["deeds"] (spD K mg F_show_deeds [.sh] .sh) := by
  obtain ⟨_, _, G_word_of, mg_word_of, kp_word_of, bi_word_of⟩ := h_word_of
  show FnOk P w K mg base CX0 (1 + 1) f fd ["deeds"] (spD K mg (fnD 3 1 .sh b_show_deeds) [.sh] .sh)
  refine fn_ok (k := 1) (ps := [.sh]) (rk := .sh) (b := b_show_deeds) (O1 := []) (N := ["deeds", "deed", "part"]) F sc_show_deeds rfl (of_decide_eq_true rfl) (fun cdv A outer s H E hr => ⟨_, (pss_one (ps_ret (pe_join pe_str (pe_lcD (K := K) (O := [.sh, .sh, .sh]) (own := [("deed", 1)]) (g := gName 1) (fun _ => d_yes) (fun _ => (DE.o (d_joinT d_str (DO.e (o_lc (vs := [2]) (i_seq (d_var 1)) (fun _ => (v_name 2)) (fun _ => d_yes) (fun _ => (DE.o (DO.sh (o_call (da_cons (d_var 2) da_nil))))) (by first | decide | (intro v hv; simp only [List.mem_cons, List.not_mem_nil, or_false] at hv; first | (rcases hv with rfl <;> rfl) | (rcases hv with rfl | rfl <;> rfl) | (rcases hv with rfl | rfl | rfl <;> rfl)))))))) (by rfl) sc_show_deeds.nd (pi_seq (pv 0)) (blkOk_by (own := [("deed", 1)]) (N := ["deeds", "deed", "part"]) (sc := defScope s_show_deeds) (by decide +kernel)) (fun _ _ _ _ _ => (pg_name (i := 1) sc_show_deeds.nd rfl (by first | exact Or.inl rfl | exact Or.inr rfl))) (fun _ _ _ _ _ => pts_nil) (fun _ _ _ _ _ => (pe_join pe_str (pe_lcD (K := K) (O := [.sh, .sh, .sh]) (own := [("part", 2)]) (g := gName 2) (fun _ => d_yes) (fun _ => (DE.o (DO.sh (o_call (da_cons (d_var 2) da_nil))))) (by rfl) sc_show_deeds.nd (pi_seq (pv 1)) (blkOk_by (own := [("part", 2)]) (N := ["deeds", "deed", "part"]) (sc := _) (by rfl)) (fun _ _ _ _ _ => (pg_name (i := 2) sc_show_deeds.nd rfl (by first | exact Or.inl rfl | exact Or.inr rfl))) (fun _ _ _ _ _ => pts_nil) (fun _ _ _ _ _ => (pe_call G_word_of (hr.mono (by decide)) rfl mg_word_of kp_word_of bi_word_of .nil pass0 (pa_cons (pv 2) pa_nil)))))))))), fun c hps hrk hmg => ?_⟩)
  show DC K c [] [.sh, .sh, .sh] _ b_show_deeds _
  exact (c_ret (d_joinT d_str (DO.e (o_lc (vs := [1]) (i_seq (d_var 0)) (fun _ => (v_name 1)) (fun _ => d_yes) (fun _ => (DE.o (d_joinT d_str (DO.e (o_lc (vs := [2]) (i_seq (d_var 1)) (fun _ => (v_name 2)) (fun _ => d_yes) (fun _ => (DE.o (DO.sh (o_call (da_cons (d_var 2) da_nil))))) (by first | decide | (intro v hv; simp only [List.mem_cons, List.not_mem_nil, or_false] at hv; first | (rcases hv with rfl <;> rfl) | (rcases hv with rfl | rfl <;> rfl) | (rcases hv with rfl | rfl | rfl <;> rfl)))))))) (by first | decide | (intro v hv; simp only [List.mem_cons, List.not_mem_nil, or_false] at hv; first | (rcases hv with rfl <;> rfl) | (rcases hv with rfl | rfl <;> rfl) | (rcases hv with rfl | rfl | rfl <;> rfl)))))) hrk)
theorem sc_law_number : FnScope ["word", "digits", "sign"] ["word"] (defScope s_law_number) := ⟨rfl, rfl, rfl, by decide +kernel, rfl, by decide +kernel, by decide +kernel⟩
theorem ok_law_number {f : Addr} {fd : FuncData}  (F : FnP K "_law_number" s_law_number f fd) (hB : ∀ x ∈ bts, mg x = none)      : FnOk P w K mg base CX0 1 f fd ["word"] (spD K mg F_law_number [.sh] .sh) := by
  show FnOk P w K mg base CX0 (0 + 1) f fd ["word"] (spD K mg (fnD 3 1 .sh b_law_number) [.sh] .sh)
  refine fn_ok (k := 0) (ps := [.sh]) (rk := .sh) (b := b_law_number) (O1 := []) (N := ["word", "digits", "sign"]) F sc_law_number rfl (of_decide_eq_true rfl) (fun cdv A outer s H E hr => ⟨_, (pss_cons (ps_set (i := 1) sc_law_number.nd rfl (by first | exact Or.inl rfl | exact Or.inr rfl) (pe_ifExp (pt_cmpR (op_eqD hr.units) (pe_slice sl_U (pv 0) po_none (po_some pe_int)) pe_str (nomark _)) (pe_slice sl_U (pv 0) (po_some pe_int) po_none) (pv 0))) (pss_cons (ps_if (PW.pt (pw_or (pt_not (pt_chain op_lt op_lt pe_int (pe_callB call_len rfl (hB "len" (by decide +kernel)) bt_len (pa_cons (pv 1) pa_nil)) pe_int)) (pw_or1 (pt_cmpR (op_neD hr.units) (pe_lcD (K := K) (O := [.sh, .sh, .sh]) (own := [("sign", 2)]) (g := gName 2) (fun _ => (d_not (d_test (d_chain g_leU g_leU d_str (d_var 2) d_str)))) (fun _ => (DE.o (d_var 2))) (by rfl) sc_law_number.nd (pi_str (pv 1)) (blkOk_by (own := [("sign", 2)]) (N := ["word", "digits", "sign"]) (sc := defScope s_law_number) (by decide +kernel)) (fun _ _ _ _ _ => (pg_name (i := 2) sc_law_number.nd rfl (by first | exact Or.inl rfl | exact Or.inr rfl))) (fun _ _ _ _ _ => (pts_one (pt_not (pt_chain op_leU op_leU pe_str (pv 2) pe_str)))) (fun _ _ _ _ _ => (pv 2))) (pe_lst pa_nil) (nomark _))))) (pss_one (ps_ret pe_non)) pss_nil) (pss_one (ps_ret (pe_ifExp (PW.pt (pw_and (pt_cmpR (op_eqD hr.units) (pe_ix ix_seq (pv 1) pe_int (fun _ _ => rfl)) pe_str (nomark _)) (pw_and1 (pt_cmpR (op_neD hr.units) (pv 0) pe_str (nomark _))))) pe_non (pe_callTy call_int_str rfl (hB "int" (by decide +kernel)) bt_int (pa_cons (pv 0) pa_nil))))))), fun c hps hrk hmg => ?_⟩)
  show DC K c [] [.sh, .sh, .sh] _ b_law_number _
  exact (c_cons (c_set 1 (d_ifE (d_test (d_op g_eq (DE.b (d_sl (DE.b (d_var 0)) p_none (p_some d_int))) (DE.b d_str))) (d_sl (DE.b (d_var 0)) (p_some d_int) p_none) (d_var 0))) (c_cons (c_if (d_or (d_not (d_test (d_chain g_lt g_lt d_int (d_cb g_len (dab_cons (DE.b (d_var 1)) dab_nil)) d_int))) (d_test (d_op g_ne (DE.b (DO.e (o_lc (vs := [2]) (i_str (d_var 1)) (fun _ => (v_name 2)) (fun _ => (d_not (d_test (d_chain g_leU g_leU d_str (d_var 2) d_str)))) (fun _ => (DE.o (d_var 2))) (by first | decide | (intro v hv; simp only [List.mem_cons, List.not_mem_nil, or_false] at hv; first | (rcases hv with rfl <;> rfl) | (rcases hv with rfl | rfl <;> rfl) | (rcases hv with rfl | rfl | rfl <;> rfl)))))) (DE.b (d_lst da_nil))))) (c_ret d_non hrk) c_nil) (c_ret (d_ifE (d_and (d_test (d_op g_eq (DE.b (d_op g_ix (DE.b (d_var 1)) (DE.b d_int))) (DE.b d_str))) (d_test (d_op g_ne (DE.b (d_var 0)) (DE.b d_str)))) d_non (d_cb g_intS (dab_cons (DE.b (d_var 0)) dab_nil))) hrk)))
theorem sc_law_read_row : FnScope ["row", "words", "forms", "numbers", "free", "word"] ["row"] (defScope s_law_read_row) := ⟨rfl, rfl, rfl, by decide +kernel, rfl, by decide +kernel, by decide +kernel⟩
theorem ok_law_read_row {f : Addr} {fd : FuncData}  (F : FnP K "_law_read_row" s_law_read_row f fd) (hB : ∀ x ∈ bts, mg x = none)     (h_law_number : Fk P w K mg base "_law_number" 1 ["word"] (spD K mg F_law_number [.sh] .sh)) : FnOk P w K mg base CX0 2 f fd ["row"] (spD K mg F_law_read_row [.sh] .sh) := by
  obtain ⟨_, _, G_law_number, mg_law_number, kp_law_number, bi_law_number⟩ := h_law_number
  show FnOk P w K mg base CX0 (1 + 1) f fd ["row"] (spD K mg (fnD 6 1 .sh b_law_read_row) [.sh] .sh)
  refine fn_ok (k := 1) (ps := [.sh]) (rk := .sh) (b := b_law_read_row) (O1 := []) (N := ["row", "words", "forms", "numbers", "free", "word"]) F sc_law_read_row rfl (of_decide_eq_true rfl) (fun cdv A outer s H E hr => ⟨_, (pss_cons (ps_set (i := 1) sc_law_read_row.nd rfl (by first | exact Or.inl rfl | exact Or.inr rfl) (pe_split (pv 0) pe_str)) (pss_cons (ps_set (i := 2) sc_law_read_row.nd rfl (by first | exact Or.inl rfl | exact Or.inr rfl) (pe_disp (pps_cons pe_str pe_int (pps_cons pe_str pe_int (pps_cons pe_str pe_int (pps_cons pe_str pe_int pps_nil)))) rfl rfl (by simp) (by decide))) (pss_cons (ps_if (PW.pt (pw_or (pt_cmp (pc_dnotin (un1 hr) (pe_ix ix_seq (pv 1) pe_int (fun _ _ => rfl)) (pv 2))) (pw_or1 (pt_cmpR (op_neD hr.units) (pe_callB call_len rfl (hB "len" (by decide +kernel)) bt_len (pa_cons (pv 1) pa_nil)) (pe_dget (un1 hr) (pv 2) (pe_ix ix_seq (pv 1) pe_int (fun _ _ => rfl)) (fun _ _ => rfl)) (nomark _))))) (pss_one (ps_ret pe_non)) pss_nil) (pss_cons (ps_setLcD (i := 3) (K := K) (O := [.sh, .sh, (.dc 0), .sh, .sh, .sh]) (own := [("word", 5)]) (g := gName 5) (fun _ => d_yes) (fun _ => (DE.o (DO.sh (o_call (da_cons (d_var 5) da_nil))))) (by rfl) sc_law_read_row.nd rfl rfl (sw_true rfl rfl rfl (by decide +kernel)) (pi_seq (pe_slice sl_U (pv 1) (po_some pe_int) po_none)) (blkOk_by (own := [("word", 5)]) (N := ["row", "words", "forms", "numbers", "free", "word"]) (sc := defScope s_law_read_row) (by decide +kernel)) (fun _ _ _ _ _ => (pg_name (i := 5) sc_law_read_row.nd rfl (by first | exact Or.inl rfl | exact Or.inr rfl))) (fun _ _ _ _ _ => pts_nil) (fun _ _ _ _ _ => (pe_call G_law_number (hr.mono (by decide)) rfl mg_law_number kp_law_number bi_law_number .nil pass0 (pa_cons (pv 5) pa_nil)))) (pss_cons (ps_set (i := 4) sc_law_read_row.nd rfl (by first | exact Or.inl rfl | exact Or.inr rfl) (pe_and (pe_cmpR (op_eqD hr.units) (pe_ix ix_seq (pv 1) pe_int (fun _ _ => rfl)) pe_str (nomark _)) (pe_one (pe_cmpR (op_eqD hr.units) (pe_ix ix_seq (pv 1) pe_int (fun _ _ => rfl)) pe_str (nomark _))))) (pss_cons (ps_if (pt_cmpR op_in_seq pe_non (pe_slice sl_U (pv 3) po_none (po_some (pe_op op_sub (pe_callB call_len rfl (hB "len" (by decide +kernel)) bt_len (pa_cons (pv 3) pa_nil)) (pe_callTy call_int1 rfl (hB "int" (by decide +kernel)) bt_int (pa_cons (pv 4) pa_nil))))) (by with_unfolding_all rfl)) (pss_one (ps_ret pe_non)) pss_nil) (pss_cons (ps_if (PW.pt (pw_and (pt_cmpR op_in_seq (pe_ix ix_seq (pv 1) pe_int (fun _ _ => rfl)) (pe_tup (pa_cons pe_str (pa_cons pe_str pa_nil))) (by with_unfolding_all rfl)) (pw_and1 (PW.pt (pw_or (pt_cmpR op_lt (pe_ix ix_seq (pv 3) pe_int (fun _ _ => rfl)) pe_int (nomark _)) (pw_or1 (pt_not (pt_chain op_le op_lt pe_int (pe_ix ix_seq (pv 3) pe_int (fun _ _ => rfl)) pe_int)))))))) (pss_one (ps_ret pe_non)) pss_nil) (pss_one (ps_ret (pe_op op_addU (pe_tup (pa_cons (pe_ix ix_seq (pv 1) pe_int (fun _ _ => rfl)) pa_nil)) (pe_callTy call_tuple_of rfl (hB "tuple" (by decide +kernel)) bt_tuple (pa_cons (pv 3) pa_nil)))))))))))), fun c hps hrk hmg => ?_⟩)
  show DC K c [] [.sh, .sh, .sh, .sh, .sh, .sh] _ b_law_read_row _
  exact (c_cons (c_set 1 (d_split (d_var 0) d_str)) (c_cons (c_setO 2 (o_disp (.cons (fun _ => d_str) (fun _ => d_int) (.cons (fun _ => d_str) (fun _ => d_int) (.cons (fun _ => d_str) (fun _ => d_int) (.cons (fun _ => d_str) (fun _ => d_int) .nil)))))) (c_cons (c_if (d_or (d_tB (d_din 2 rfl (d_op g_ix (DE.b (d_var 1)) (DE.b d_int))).2) (d_test (d_op g_ne (DE.b (d_cb g_len (dab_cons (DE.b (d_var 1)) dab_nil))) (DE.b (d_dget 2 rfl (d_op g_ix (DE.b (d_var 1)) (DE.b d_int))))))) (c_ret d_non hrk) c_nil) (c_cons (c_set 3 (DO.e (o_lc (vs := [5]) (i_seq (d_sl (DE.b (d_var 1)) (p_some d_int) p_none)) (fun _ => (v_name 5)) (fun _ => d_yes) (fun _ => (DE.o (DO.sh (o_call (da_cons (d_var 5) da_nil))))) (by first | decide | (intro v hv; simp only [List.mem_cons, List.not_mem_nil, or_false] at hv; first | (rcases hv with rfl <;> rfl) | (rcases hv with rfl | rfl <;> rfl) | (rcases hv with rfl | rfl | rfl <;> rfl)))))) (c_cons (c_set 4 (d_andV (d_op g_eq (DE.b (d_op g_ix (DE.b (d_var 1)) (DE.b d_int))) (DE.b d_str)) (d_op g_eq (DE.b (d_op g_ix (DE.b (d_var 1)) (DE.b d_int))) (DE.b d_str)))) (c_cons (c_if (d_test (d_op g_in (DE.b d_non) (DE.b (d_sl (DE.b (d_var 3)) p_none (p_some (d_op g_sub (DE.b (d_cb g_len (dab_cons (DE.b (d_var 3)) dab_nil))) (DE.b (d_cb g_toint (dab_cons (DE.b (d_var 4)) dab_nil))))))))) (c_ret d_non hrk) c_nil) (c_cons (c_if (d_and (d_test (d_op g_in (DE.b (d_op g_ix (DE.b (d_var 1)) (DE.b d_int))) (DE.b (d_tup (da_cons d_str (da_cons d_str da_nil)))))) (d_or (d_test (d_op g_lt (DE.b (d_op g_ix (DE.b (d_var 3)) (DE.b d_int))) (DE.b d_int))) (d_not (d_test (d_chain g_le g_lt d_int (d_op g_ix (DE.b (d_var 3)) (DE.b d_int)) d_int))))) (c_ret d_non hrk) c_nil) (c_ret (d_op g_add (DE.b (d_tup (da_cons (d_op g_ix (DE.b (d_var 1)) (DE.b d_int)) da_nil))) (DE.b (d_cb g_tuple (dab_cons (DE.b (d_var 3)) dab_nil)))) hrk))))))))
theorem sc_law_read : FnScope ["text", "deeds", "row"] ["text"] (defScope s_law_read) := ⟨rfl, rfl, rfl, by decide +kernel, rfl, by decide +kernel, by decide +kernel⟩
theorem ok_law_read {f : Addr} {fd : FuncData}  (F : FnP K "_law_read" s_law_read f fd) (hB : ∀ x ∈ bts, mg x = none)     (h_law_read_row : Fk P w K mg base "_law_read_row" 2 ["row"] (spD K mg F_law_read_row [.sh] .sh)) : FnOk P w K mg base CX0 3 f fd ["text"] (spD K mg F_law_read [.sh] .sh) := by
  obtain ⟨_, _, G_law_read_row, mg_law_read_row, kp_law_read_row, bi_law_read_row⟩ := h_law_read_row
  show FnOk P w K mg base CX0 (2 + 1) f fd ["text"] (spD K mg (fnD 3 1 .sh b_law_read) [.sh] .sh)
  refine fn_ok (k := 2) (ps := [.sh]) (rk := .sh) (b := b_law_read) (O1 := []) (N := ["text", "deeds", "row"]) F sc_law_read rfl (of_decide_eq_true rfl) (fun cdv A outer s H E hr => ⟨_, (pss_cons (ps_if (pt_cmpR (op_eqD hr.units) (pv 0) pe_str (nomark _)) (pss_one (ps_ret (pe_lst pa_nil))) pss_nil) (pss_cons (ps_setLcD (i := 1) (K := K) (O := [.sh, .sh, .sh]) (own := [("row", 2)]) (g := gName 2) (fun _ => d_yes) (fun _ => (DE.o (DO.sh (o_call (da_cons (d_var 2) da_nil))))) (by rfl) sc_law_read.nd rfl rfl (sw_true rfl rfl rfl (by decide +kernel)) (pi_seq (pe_split (pv 0) pe_str)) (blkOk_by (own := [("row", 2)]) (N := ["text", "deeds", "row"]) (sc := defScope s_law_read) (by decide +kernel)) (fun _ _ _ _ _ => (pg_name (i := 2) sc_law_read.nd rfl (by first | exact Or.inl rfl | exact Or.inr rfl))) (fun _ _ _ _ _ => pts_nil) (fun _ _ _ _ _ => (pe_call G_law_read_row (hr.mono (by decide)) rfl mg_law_read_row kp_law_read_row bi_law_read_row .nil pass0 (pa_cons (pv 2) pa_nil)))) (pss_one (ps_ret (pe_ifExp (pt_cmpR (op_inD (units65 hr)) pe_non (pv 1) (by with_unfolding_all rfl)) pe_non (pv 1)))))), fun c hps hrk hmg => ?_⟩)
  show DC K c [] [.sh, .sh, .sh] _ b_law_read _
  exact (c_cons (c_if (d_test (d_op g_eq (DE.b (d_var 0)) (DE.b d_str))) (c_ret (d_lst da_nil) hrk) c_nil) (c_cons (c_set 1 (DO.e (o_lc (vs := [2]) (i_seq (d_split (d_var 0) d_str)) (fun _ => (v_name 2)) (fun _ => d_yes) (fun _ => (DE.o (DO.sh (o_call (da_cons (d_var 2) da_nil))))) (by first | decide | (intro v hv; simp only [List.mem_cons, List.not_mem_nil, or_false] at hv; first | (rcases hv with rfl <;> rfl) | (rcases hv with rfl | rfl <;> rfl) | (rcases hv with rfl | rfl | rfl <;> rfl)))))) (c_ret (d_ifE (d_test (d_op g_inDp (DE.b d_non) (DE.b (d_var 1)))) d_non (d_var 1)) hrk)))
theorem sc_law_text : FnScope ["deeds", "rows", "deed", "part"] ["deeds"] (defScope s_law_text) := ⟨rfl, rfl, rfl, by decide +kernel, rfl, by decide +kernel, by decide +kernel⟩
theorem ok_law_text {f : Addr} {fd : FuncData}  (F : FnP K "_law_text" s_law_text f fd) (hB : ∀ x ∈ bts, mg x = none)      : FnOk P w K mg base CX0 1 f fd ["deeds"] (spD K mg F_law_text [.sh] .sh) := by
  show FnOk P w K mg base CX0 (0 + 1) f fd ["deeds"] (spD K mg (fnD 4 1 .sh b_law_text) [.sh] .sh)
  refine fn_ok (k := 0) (ps := [.sh]) (rk := .sh) (b := b_law_text) (O1 := []) (N := ["deeds", "rows", "deed", "part"]) F sc_law_text rfl (of_decide_eq_true rfl) (fun cdv A outer s H E hr => ⟨_, (pss_cons (ps_set (i := 1) sc_law_text.nd rfl (by first | exact Or.inl rfl | exact Or.inr rfl) (pe_lst pa_nil)) (pss_cons (ps_for PassesOwn.never rfl (pi_seq (pv 0)) (pg_name (i := 2) sc_law_text.nd rfl (by first | exact Or.inl rfl | exact Or.inr rfl)) (pss_one (ps_expr (pe_bm PySem.F.plainAttrs_list PySem.F.slot_list_append PySem.F.type_list_append mt_append (pv 1) (pa_cons (pe_join pe_str (pe_lcD (K := K) (O := [.sh, (.ls .sh), .sh, .sh]) (own := [("part", 3)]) (g := gName 3) (fun _ => d_yes) (fun _ => (DE.o (d_ifE (d_test (d_op g_isN (DE.b (d_var 3)) (DE.b d_non))) d_str (d_cb g_strU (dab_cons (DE.b (d_var 3)) dab_nil))))) (by rfl) sc_law_text.nd (pi_seq (pv 2)) (blkOk_by (own := [("part", 3)]) (N := ["deeds", "rows", "deed", "part"]) (sc := defScope s_law_text) (by decide +kernel)) (fun _ _ _ _ _ => (pg_name (i := 3) sc_law_text.nd rfl (by first | exact Or.inl rfl | exact Or.inr rfl))) (fun _ _ _ _ _ => pts_nil) (fun _ _ _ _ _ => (pe_ifExp (pt_cmpR op_isN (pv 3) pe_non (nomark _)) pe_str (pe_callTy call_strU rfl (hB "str" (by decide +kernel)) bt_str (pa_cons (pv 3) pa_nil)))))) pa_nil))))) (pss_one (ps_ret (pe_join pe_str (pv 1)))))), fun c hps hrk hmg => ?_⟩)
  show DC K c [] [.sh, .sh, .sh, .sh] _ b_law_text _
  exact (c_cons (c_setO 1 (o_lst da_nil)) (c_cons (c_for (i_seq (d_var 0)) (g_name 2) (c_app 1 (d_joinT d_str (DO.e (o_lc (vs := [3]) (i_seq (d_var 2)) (fun _ => (v_name 3)) (fun _ => d_yes) (fun _ => (DE.o (d_ifE (d_test (d_op g_isN (DE.b (d_var 3)) (DE.b d_non))) d_str (d_cb g_strU (dab_cons (DE.b (d_var 3)) dab_nil))))) (by first | decide | (intro v hv; simp only [List.mem_cons, List.not_mem_nil, or_false] at hv; first | (rcases hv with rfl <;> rfl) | (rcases hv with rfl | rfl <;> rfl) | (rcases hv with rfl | rfl | rfl <;> rfl)))))))) (c_frz 1 rfl (c_ret (d_joinT d_str (d_var 1)) hrk))))
theorem sc_law_signs : FnScope [] [] (defScope s_law_signs) := ⟨rfl, rfl, rfl, by decide +kernel, rfl, by decide +kernel, by decide +kernel⟩
theorem ok_law_signs {f : Addr} {fd : FuncData}  (F : FnP K "_law_signs" s_law_signs f fd) (hB : ∀ x ∈ bts, mg x = none)      : FnOk P w K mg base CX0 1 f fd [] (spD K mg F_law_signs [] .sh) := by
  show FnOk P w K mg base CX0 (0 + 1) f fd [] (spD K mg (fnD 0 0 .sh b_law_signs) [] .sh)
  refine fn_ok (k := 0) (ps := []) (rk := .sh) (b := b_law_signs) (O1 := []) (N := []) F sc_law_signs rfl (of_decide_eq_true rfl) (fun cdv A outer s H E hr => ⟨_, (pss_one (ps_ret pe_str)), fun c hps hrk hmg => ?_⟩)
  show DC K c [] [] _ b_law_signs _
  exact (c_ret d_str hrk)
theorem sc_law_sign_bent : FnScope ["deck", "text", "signs", "at", "sign"] ["deck", "text"] (defScope s_law_sign_bent) := ⟨rfl, rfl, rfl, by decide +kernel, rfl, by decide +kernel, by decide +kernel⟩
theorem ok_law_sign_bent {f : Addr} {fd : FuncData}  (F : FnP K "_law_sign_bent" s_law_sign_bent f fd) (hB : ∀ x ∈ bts, mg x = none)     (h_law_signs : Fk P w K mg base "_law_signs" 1 [] (spD K mg F_law_signs [] .sh)) (h_law_pick : Fk P w K mg base "_law_pick" 1 ["deck", "many"] (spD K mg F_law_pick [(.pm (.ls .sh)), .sh] .sh)) : FnOk P w K mg base CX0 2 f fd ["deck", "text"] (spD K mg F_law_sign_bent [(.pm (.ls .sh)), .sh] .sh) := by
  obtain ⟨_, _, G_law_signs, mg_law_signs, kp_law_signs, bi_law_signs⟩ := h_law_signs
  obtain ⟨_, _, G_law_pick, mg_law_pick, kp_law_pick, bi_law_pick⟩ := h_law_pick
  show FnOk P w K mg base CX0 (1 + 1) f fd ["deck", "text"] (spD K mg (fnD 5 2 .sh b_law_sign_bent) [(.pm (.ls .sh)), .sh] .sh)
  refine fn_ok (k := 1) (ps := [(.pm (.ls .sh)), .sh]) (rk := .sh) (b := b_law_sign_bent) (O1 := []) (N := ["deck", "text", "signs", "at", "sign"]) F sc_law_sign_bent rfl (of_decide_eq_true rfl) (fun cdv A outer s H E hr => ⟨_, (pss_cons (ps_set (i := 2) sc_law_sign_bent.nd rfl (by first | exact Or.inl rfl | exact Or.inr rfl) (pe_call0 G_law_signs (hr.mono (by decide)) rfl mg_law_signs kp_law_signs bi_law_signs .nil pass0)) (pss_cons (ps_set (i := 3) sc_law_sign_bent.nd rfl (by first | exact Or.inl rfl | exact Or.inr rfl) (pe_call G_law_pick (hr.mono (by decide)) rfl mg_law_pick kp_law_pick bi_law_pick .nil pass0 (pa_cons (pv 0) (pa_cons (pe_op op_addU (pe_callB call_len rfl (hB "len" (by decide +kernel)) bt_len (pa_cons (pv 1) pa_nil)) pe_int) pa_nil)))) (pss_cons (ps_set (i := 4) sc_law_sign_bent.nd rfl (by first | exact Or.inl rfl | exact Or.inr rfl) (pe_ix ix_seq (pv 2) (pe_call G_law_pick (hr.mono (by decide)) rfl mg_law_pick kp_law_pick bi_law_pick .nil pass0 (pa_cons (pv 0) (pa_cons pe_int pa_nil))) (fun _ _ => rfl))) (pss_cons (ps_if (PW.pt (pw_and (pt_cmpR (op_eqD hr.units) (pe_call G_law_pick (hr.mono (by decide)) rfl mg_law_pick kp_law_pick bi_law_pick .nil pass0 (pa_cons (pv 0) (pa_cons pe_int pa_nil))) pe_int (nomark _)) (pw_and1 (pt_cmpR (op_neD hr.units) (pv 1) pe_str (nomark _))))) (pss_one (ps_set (i := 4) sc_law_sign_bent.nd rfl (by first | exact Or.inl rfl | exact Or.inr rfl) (pe_ix ix_seq (pv 1) (pe_call G_law_pick (hr.mono (by decide)) rfl mg_law_pick kp_law_pick bi_law_pick .nil pass0 (pa_cons (pv 0) (pa_cons (pe_callB call_len rfl (hB "len" (by decide +kernel)) bt_len (pa_cons (pv 1) pa_nil)) pa_nil))) (fun _ _ => rfl)))) pss_nil) (pss_one (ps_ret (pe_op op_addU (pe_op op_addU (pe_slice sl_U (pv 1) po_none (po_some (pv 3))) (pe_ix ix_seq (pe_lst (pa_cons (pv 4) (pa_cons (pv 4) (pa_cons pe_str pa_nil)))) (pe_call G_law_pick (hr.mono (by decide)) rfl mg_law_pick kp_law_pick bi_law_pick .nil pass0 (pa_cons (pv 0) (pa_cons pe_int pa_nil))) (fun _ _ => rfl))) (pe_slice sl_U (pv 1) (po_some (pe_op op_addU (pv 3) (pe_call G_law_pick (hr.mono (by decide)) rfl mg_law_pick kp_law_pick bi_law_pick .nil pass0 (pa_cons (pv 0) (pa_cons pe_int pa_nil))))) po_none)))))))), fun c hps hrk hmg => ?_⟩)
  show DC K c [] [(.pm (.ls .sh)), .sh, .sh, .sh, .sh] _ b_law_sign_bent _
  exact (c_cons (c_set 2 (DO.sh (o_call da_nil))) (c_cons (c_set 3 (DO.sh (o_call1 0 (k := .ls .sh) (da_cons (d_op g_add (DE.b (d_cb g_len (dab_cons (DE.b (d_var 1)) dab_nil))) (DE.b d_int)) da_nil) (.inr rfl)))) (c_cons (c_set 4 (d_op g_ix (DE.b (d_var 2)) (DE.b (DO.sh (o_call1 0 (k := .ls .sh) (da_cons d_int da_nil) (.inr rfl)))))) (c_cons (c_if (d_and (d_test (d_op g_eq (DE.b (DO.sh (o_call1 0 (k := .ls .sh) (da_cons d_int da_nil) (.inr rfl)))) (DE.b d_int))) (d_test (d_op g_ne (DE.b (d_var 1)) (DE.b d_str)))) (c_set 4 (d_op g_ix (DE.b (d_var 1)) (DE.b (DO.sh (o_call1 0 (k := .ls .sh) (da_cons (d_cb g_len (dab_cons (DE.b (d_var 1)) dab_nil)) da_nil) (.inr rfl)))))) c_nil) (c_ret (d_op g_add (DE.b (d_op g_add (DE.b (d_sl (DE.b (d_var 1)) p_none (p_some (d_var 3)))) (DE.b (d_op g_ix (DE.b (d_lst (da_cons (d_var 4) (da_cons (d_var 4) (da_cons d_str da_nil))))) (DE.b (DO.sh (o_call1 0 (k := .ls .sh) (da_cons d_int da_nil) (.inr rfl)))))))) (DE.b (d_sl (DE.b (d_var 1)) (p_some (d_op g_add (DE.b (d_var 3)) (DE.b (DO.sh (o_call1 0 (k := .ls .sh) (da_cons d_int da_nil) (.inr rfl)))))) p_none))) hrk)))))
theorem sc_law_list_bent : FnScope ["deck", "some", "at", "other", "kind", "crossed"] ["deck", "some"] (defScope s_law_list_bent) := ⟨rfl, rfl, rfl, by decide +kernel, rfl, by decide +kernel, by decide +kernel⟩
theorem ok_law_list_bent {f : Addr} {fd : FuncData}  (F : FnP K "_law_list_bent" s_law_list_bent f fd) (hB : ∀ x ∈ bts, mg x = none)     (h_law_pick : Fk P w K mg base "_law_pick" 1 ["deck", "many"] (spD K mg F_law_pick [(.pm (.ls .sh)), .sh] .sh)) : FnOk P w K mg base CX0 2 f fd ["deck", "some"] (spD K mg F_law_list_bent [(.pm (.ls .sh)), .sh] .sh) := by
  obtain ⟨_, _, G_law_pick, mg_law_pick, kp_law_pick, bi_law_pick⟩ := h_law_pick
  show FnOk P w K mg base CX0 (1 + 1) f fd ["deck", "some"] (spD K mg (fnD 6 2 .sh b_law_list_bent) [(.pm (.ls .sh)), .sh] .sh)
  refine fn_ok (k := 1) (ps := [(.pm (.ls .sh)), .sh]) (rk := .sh) (b := b_law_list_bent) (O1 := []) (N := ["deck", "some", "at", "other", "kind", "crossed"]) F sc_law_list_bent rfl (of_decide_eq_true rfl) (fun cdv A outer s H E hr => ⟨_, (pss_cons (ps_set (i := 2) sc_law_list_bent.nd rfl (by first | exact Or.inl rfl | exact Or.inr rfl) (pe_call G_law_pick (hr.mono (by decide)) rfl mg_law_pick kp_law_pick bi_law_pick .nil pass0 (pa_cons (pv 0) (pa_cons (pe_callB call_len rfl (hB "len" (by decide +kernel)) bt_len (pa_cons (pv 1) pa_nil)) pa_nil)))) (pss_cons (ps_set (i := 3) sc_law_list_bent.nd rfl (by first | exact Or.inl rfl | exact Or.inr rfl) (pe_ix ix_seq (pv 1) (pe_call G_law_pick (hr.mono (by decide)) rfl mg_law_pick kp_law_pick bi_law_pick .nil pass0 (pa_cons (pv 0) (pa_cons (pe_callB call_len rfl (hB "len" (by decide +kernel)) bt_len (pa_cons (pv 1) pa_nil)) pa_nil))) (fun _ _ => rfl))) (pss_cons (ps_set (i := 4) sc_law_list_bent.nd rfl (by first | exact Or.inl rfl | exact Or.inr rfl) (pe_call G_law_pick (hr.mono (by decide)) rfl mg_law_pick kp_law_pick bi_law_pick .nil pass0 (pa_cons (pv 0) (pa_cons pe_int pa_nil)))) (pss_cons (ps_if (pt_cmpR (op_eqD hr.units) (pv 4) pe_int (nomark _)) (pss_one (ps_ret (pe_op op_addU (pe_slice sl_U (pv 1) po_none (po_some (pv 2))) (pe_slice sl_U (pv 1) (po_some (pe_op op_addU (pv 2) pe_int)) po_none)))) pss_nil) (pss_cons (ps_if (pt_cmpR (op_eqD hr.units) (pv 4) pe_int (nomark _)) (pss_one (ps_ret (pe_op op_addU (pe_op op_addU (pe_slice sl_U (pv 1) po_none (po_some (pv 2))) (pe_lst (pa_cons (pv 3) pa_nil))) (pe_slice sl_U (pv 1) (po_some (pv 2)) po_none)))) pss_nil) (pss_cons (ps_if (pt_cmpR (op_eqD hr.units) (pv 4) pe_int (nomark _)) (pss_one (ps_ret (pe_op op_addU (pv 1) (pe_lst (pa_cons (pv 3) pa_nil))))) pss_nil) (pss_cons (ps_if (pt_cmpR (op_eqD hr.units) (pv 4) pe_int (nomark _)) (pss_one (ps_ret (pe_op op_addU (pe_op op_addU (pe_slice sl_U (pv 1) po_none (po_some (pv 2))) (pe_lst (pa_cons (pv 3) pa_nil))) (pe_slice sl_U (pv 1) (po_some (pe_op op_addU (pv 2) pe_int)) po_none)))) pss_nil) (pss_cons (ps_set (i := 5) sc_law_list_bent.nd rfl (by first | exact Or.inl rfl | exact Or.inr rfl) (pe_op op_addU (pe_slice sl_U (pv 1) (po_some (pe_op op_addU (pv 2) pe_int)) (po_some (pe_op op_addU (pv 2) pe_int))) (pe_slice sl_U (pv 1) (po_some (pv 2)) (po_some (pe_op op_addU (pv 2) pe_int))))) (pss_one (ps_ret (pe_op op_addU (pe_op op_addU (pe_slice sl_U (pv 1) po_none (po_some (pv 2))) (pv 5)) (pe_slice sl_U (pv 1) (po_some (pe_op op_addU (pv 2) pe_int)) po_none)))))))))))), fun c hps hrk hmg => ?_⟩)
  show DC K c [] [(.pm (.ls .sh)), .sh, .sh, .sh, .sh, .sh] _ b_law_list_bent _
  exact (c_cons (c_set 2 (DO.sh (o_call1 0 (k := .ls .sh) (da_cons (d_cb g_len (dab_cons (DE.b (d_var 1)) dab_nil)) da_nil) (.inr rfl)))) (c_cons (c_set 3 (d_op g_ix (DE.b (d_var 1)) (DE.b (DO.sh (o_call1 0 (k := .ls .sh) (da_cons (d_cb g_len (dab_cons (DE.b (d_var 1)) dab_nil)) da_nil) (.inr rfl)))))) (c_cons (c_set 4 (DO.sh (o_call1 0 (k := .ls .sh) (da_cons d_int da_nil) (.inr rfl)))) (c_cons (c_if (d_test (d_op g_eq (DE.b (d_var 4)) (DE.b d_int))) (c_ret (d_op g_add (DE.b (d_sl (DE.b (d_var 1)) p_none (p_some (d_var 2)))) (DE.b (d_sl (DE.b (d_var 1)) (p_some (d_op g_add (DE.b (d_var 2)) (DE.b d_int))) p_none))) hrk) c_nil) (c_cons (c_if (d_test (d_op g_eq (DE.b (d_var 4)) (DE.b d_int))) (c_ret (d_op g_add (DE.b (d_op g_add (DE.b (d_sl (DE.b (d_var 1)) p_none (p_some (d_var 2)))) (DE.b (d_lst (da_cons (d_var 3) da_nil))))) (DE.b (d_sl (DE.b (d_var 1)) (p_some (d_var 2)) p_none))) hrk) c_nil) (c_cons (c_if (d_test (d_op g_eq (DE.b (d_var 4)) (DE.b d_int))) (c_ret (d_op g_add (DE.b (d_var 1)) (DE.b (d_lst (da_cons (d_var 3) da_nil)))) hrk) c_nil) (c_cons (c_if (d_test (d_op g_eq (DE.b (d_var 4)) (DE.b d_int))) (c_ret (d_op g_add (DE.b (d_op g_add (DE.b (d_sl (DE.b (d_var 1)) p_none (p_some (d_var 2)))) (DE.b (d_lst (da_cons (d_var 3) da_nil))))) (DE.b (d_sl (DE.b (d_var 1)) (p_some (d_op g_add (DE.b (d_var 2)) (DE.b d_int))) p_none))) hrk) c_nil) (c_cons (c_set 5 (d_op g_add (DE.b (d_sl (DE.b (d_var 1)) (p_some (d_op g_add (DE.b (d_var 2)) (DE.b d_int))) (p_some (d_op g_add (DE.b (d_var 2)) (DE.b d_int))))) (DE.b (d_sl (DE.b (d_var 1)) (p_some (d_var 2)) (p_some (d_op g_add (DE.b (d_var 2)) (DE.b d_int))))))) (c_ret (d_op g_add (DE.b (d_op g_add (DE.b (d_sl (DE.b (d_var 1)) p_none (p_some (d_var 2)))) (DE.b (d_var 5)))) (DE.b (d_sl (DE.b (d_var 1)) (p_some (d_op g_add (DE.b (d_var 2)) (DE.b d_int))) p_none))) hrk)))))))))
theorem sc_law_bent : FnScope ["deck", "text", "joints", "kind", "joint"] ["deck", "text", "joints"] (defScope s_law_bent) := ⟨rfl, rfl, rfl, by decide +kernel, rfl, by decide +kernel, by decide +kernel⟩
theorem ok_law_bent {f : Addr} {fd : FuncData}  (F : FnP K "_law_bent" s_law_bent f fd) (hB : ∀ x ∈ bts, mg x = none)     (h_law_pick : Fk P w K mg base "_law_pick" 1 ["deck", "many"] (spD K mg F_law_pick [(.pm (.ls .sh)), .sh] .sh)) (h_law_sign_bent : Fk P w K mg base "_law_sign_bent" 2 ["deck", "text"] (spD K mg F_law_sign_bent [(.pm (.ls .sh)), .sh] .sh)) (h_law_list_bent : Fk P w K mg base "_law_list_bent" 2 ["deck", "some"] (spD K mg F_law_list_bent [(.pm (.ls .sh)), .sh] .sh)) : FnOk P w K mg base CX0 3 f fd ["deck", "text", "joints"] (spD K mg F_law_bent [(.pm (.ls .sh)), .sh, .sh] .sh) := by
  obtain ⟨_, _, G_law_pick, mg_law_pick, kp_law_pick, bi_law_pick⟩ := h_law_pick
  obtain ⟨_, _, G_law_sign_bent, mg_law_sign_bent, kp_law_sign_bent, bi_law_sign_bent⟩ := h_law_sign_bent
  obtain ⟨_, _, G_law_list_bent, mg_law_list_bent, kp_law_list_bent, bi_law_list_bent⟩ := h_law_list_bent
  show FnOk P w K mg base CX0 (2 + 1) f fd ["deck", "text", "joints"] (spD K mg (fnD 5 3 .sh b_law_bent) [(.pm (.ls .sh)), .sh, .sh] .sh)
  refine fn_ok (k := 2) (ps := [(.pm (.ls .sh)), .sh, .sh]) (rk := .sh) (b := b_law_bent) (O1 := []) (N := ["deck", "text", "joints", "kind", "joint"]) F sc_law_bent rfl (of_decide_eq_true rfl) (fun cdv A outer s H E hr => ⟨_, (pss_cons (ps_set (i := 3) sc_law_bent.nd rfl (by first | exact Or.inl rfl | exact Or.inr rfl) (pe_call G_law_pick (hr.mono (by decide)) rfl mg_law_pick kp_law_pick bi_law_pick .nil pass0 (pa_cons (pv 0) (pa_cons (pe_op op_addU pe_int (pe_callB call_len rfl (hB "len" (by decide +kernel)) bt_len (pa_cons (pv 2) pa_nil))) pa_nil)))) (pss_cons (ps_if (pt_cmpR op_lt (pv 3) pe_int (nomark _)) (pss_one (ps_ret (pe_call G_law_sign_bent (hr.mono (by decide)) rfl mg_law_sign_bent kp_law_sign_bent bi_law_sign_bent .nil pass0 (pa_cons (pv 0) (pa_cons (pv 1) pa_nil))))) pss_nil) (pss_cons (ps_set (i := 4) sc_law_bent.nd rfl (by first | exact Or.inl rfl | exact Or.inr rfl) (pe_ix ix_seq (pv 2) (pe_op op_sub (pv 3) pe_int) (fun _ _ => rfl))) (pss_one (ps_ret (pe_join (pv 4) (pe_call G_law_list_bent (hr.mono (by decide)) rfl mg_law_list_bent kp_law_list_bent bi_law_list_bent .nil pass0 (pa_cons (pv 0) (pa_cons (pe_split (pv 1) (pv 4)) pa_nil))))))))), fun c hps hrk hmg => ?_⟩)
  show DC K c [] [(.pm (.ls .sh)), .sh, .sh, .sh, .sh] _ b_law_bent _
  exact (c_cons (c_set 3 (DO.sh (o_call1 0 (k := .ls .sh) (da_cons (d_op g_add (DE.b d_int) (DE.b (d_cb g_len (dab_cons (DE.b (d_var 2)) dab_nil)))) da_nil) (.inr rfl)))) (c_cons (c_if (d_test (d_op g_lt (DE.b (d_var 3)) (DE.b d_int))) (c_ret (DO.sh (o_call1 0 (k := .ls .sh) (da_cons (d_var 1) da_nil) (.inr rfl))) hrk) c_nil) (c_cons (c_set 4 (d_op g_ix (DE.b (d_var 2)) (DE.b (d_op g_sub (DE.b (d_var 3)) (DE.b d_int))))) (c_ret (d_joinT (d_var 4) (DO.sh (o_call1 0 (k := .ls .sh) (da_cons (d_split (d_var 1) (d_var 4)) da_nil) (.inr rfl)))) hrk))))
theorem sc_number_of : FnScope ["word", "digits", "sign"] ["word"] (defScope s_number_of) := ⟨rfl, rfl, rfl, by decide +kernel, rfl, by decide +kernel, by decide +kernel⟩
theorem ok_number_of {f : Addr} {fd : FuncData} {tk_DIGITS : Tok} (F : FnP K "number_of" s_number_of f fd) (hB : ∀ x ∈ bts, mg x = none) (gc_DIGITS : mg "DIGITS" = some (.str "0123456789" tk_DIGITS))     : FnOk P w K mg base CX0 1 f fd ["word"] (spD K mg F_number_of [.sh] .sh) := by
  show FnOk P w K mg base CX0 (0 + 1) f fd ["word"] (spD K mg (fnD 3 1 .sh b_number_of) [.sh] .sh)
  refine fn_ok (k := 0) (ps := [.sh]) (rk := .sh) (b := b_number_of) (O1 := []) (N := ["word", "digits", "sign"]) F sc_number_of rfl (of_decide_eq_true rfl) (fun cdv A outer s H E hr => ⟨_, (pss_cons (ps_set (i := 1) sc_number_of.nd rfl (by first | exact Or.inl rfl | exact Or.inr rfl) (pv 0)) (pss_cons (ps_if (pt_cmpR (op_eqD hr.units) (pe_slice sl_U (pv 0) po_none (po_some pe_int)) pe_str (nomark _)) (pss_one (ps_set (i := 1) sc_number_of.nd rfl (by first | exact Or.inl rfl | exact Or.inr rfl) (pe_slice sl_U (pv 0) (po_some pe_int) po_none))) pss_nil) (pss_cons (ps_if (PW.pt (pw_or (pt_not (pt_chain op_le op_le pe_int (pe_callB call_len rfl (hB "len" (by decide +kernel)) bt_len (pa_cons (pv 1) pa_nil)) pe_int)) (pw_or1 (pt_cmpR (op_neD hr.units) (pe_lcD (K := K) (O := [.sh, .sh, .sh]) (own := [("sign", 2)]) (g := gName 2) (fun _ => (d_test (d_op g_notInSg (DE.b (d_var 2)) (DE.b d_str)))) (fun _ => (DE.o (d_var 2))) (by rfl) sc_number_of.nd (pi_str (pv 1)) (blkOk_by (own := [("sign", 2)]) (N := ["word", "digits", "sign"]) (sc := defScope s_number_of) (by decide +kernel)) (fun _ _ _ _ _ => (pg_name (i := 2) sc_number_of.nd rfl (by first | exact Or.inl rfl | exact Or.inr rfl))) (fun _ _ _ _ _ => (pts_one (pt_cmpR op_notInSg (pv 2) (pe_glob (v := .str "0123456789") rfl gc_DIGITS ⟨_, rfl⟩) (by with_unfolding_all rfl)))) (fun _ _ _ _ _ => (pv 2))) (pe_lst pa_nil) (nomark _))))) (pss_one (ps_ret pe_non)) pss_nil) (pss_cons (ps_if (PW.pt (pw_and (pt_cmpR (op_eqD hr.units) (pe_ix ix_seq (pv 1) pe_int (fun _ _ => rfl)) pe_str (nomark _)) (pw_and1 (pt_cmpR (op_neD hr.units) (pv 0) pe_str (nomark _))))) (pss_one (ps_ret pe_non)) pss_nil) (pss_one (ps_ret (pe_callTy call_int_str rfl (hB "int" (by decide +kernel)) bt_int (pa_cons (pv 0) pa_nil)))))))), fun c hps hrk hmg => ?_⟩)
  show DC K c [] [.sh, .sh, .sh] _ b_number_of _
  exact (c_cons (c_set 1 (d_var 0)) (c_cons (c_if (d_test (d_op g_eq (DE.b (d_sl (DE.b (d_var 0)) p_none (p_some d_int))) (DE.b d_str))) (c_set 1 (d_sl (DE.b (d_var 0)) (p_some d_int) p_none)) c_nil) (c_cons (c_if (d_or (d_not (d_test (d_chain g_le g_le d_int (d_cb g_len (dab_cons (DE.b (d_var 1)) dab_nil)) d_int))) (d_test (d_op g_ne (DE.b (DO.e (o_lc (vs := [2]) (i_str (d_var 1)) (fun _ => (v_name 2)) (fun _ => (d_test (d_op g_notInSg (DE.b (d_var 2)) (DE.b d_str)))) (fun _ => (DE.o (d_var 2))) (by first | decide | (intro v hv; simp only [List.mem_cons, List.not_mem_nil, or_false] at hv; first | (rcases hv with rfl <;> rfl) | (rcases hv with rfl | rfl <;> rfl) | (rcases hv with rfl | rfl | rfl <;> rfl)))))) (DE.b (d_lst da_nil))))) (c_ret d_non hrk) c_nil) (c_cons (c_if (d_and (d_test (d_op g_eq (DE.b (d_op g_ix (DE.b (d_var 1)) (DE.b d_int))) (DE.b d_str))) (d_test (d_op g_ne (DE.b (d_var 0)) (DE.b d_str)))) (c_ret d_non hrk) c_nil) (c_ret (d_cb g_intS (dab_cons (DE.b (d_var 0)) dab_nil)) hrk)))))
theorem sc_read_deed : FnScope ["row", "words", "numbers", "word"] ["row"] (defScope s_read_deed) := ⟨rfl, rfl, rfl, by decide +kernel, rfl, by decide +kernel, by decide +kernel⟩
theorem ok_read_deed {f : Addr} {fd : FuncData}  {a_FORMS : Addr} {C_NoText : Addr} (F : FnP K "read_deed" s_read_deed f fd) (hB : ∀ x ∈ bts, mg x = none)  (gd_FORMS : mg "FORMS" = some (.ref a_FORMS)) (kd_FORMS : KTxt K w a_FORMS [("begin", 3), ("rows", 3), ("step", 1), ("put", 3)]) (exc_NoText : ExC K mg "NoText" C_NoText)   (h_number_of : Fk P w K mg base "number_of" 1 ["word"] (spD K mg F_number_of [.sh] .sh)) : FnOk P w K mg base (L2N.CX P w) 2 f fd ["row"] (spD K mg F_read_deed [.sh] .sh) := by
  obtain ⟨_, _, G_number_of, mg_number_of, kp_number_of, bi_number_of⟩ := h_number_of
  show FnOk P w K mg base (L2N.CX P w) (1 + 1) f fd ["row"] (spD K mg (fnD 4 1 .sh b_read_deed) [.sh] .sh)
  refine fn_okE (k := 1) (ps := [.sh]) (rk := .sh) (b := b_read_deed) (O1 := []) (N := ["row", "words", "numbers", "word"]) F sc_read_deed rfl (of_decide_eq_true rfl) (fun cdv A outer s H E hr tk pw => ⟨_, (pss_cons (ps_set (i := 1) sc_read_deed.nd rfl (by first | exact Or.inl rfl | exact Or.inr rfl) (pe_split (pv 0) pe_str)) (pss_cons (ps_if (pt_cmpR (op_neD hr.units) (pe_kget2 rfl gd_FORMS kd_FORMS (pe_ix ix_seq (pv 1) pe_int (fun _ _ => rfl)) (pe_un un_neg pe_int) ⟨rfl, rfl, rfl, rfl⟩) (pe_op op_sub (pe_callB call_len rfl (hB "len" (by decide +kernel)) bt_len (pa_cons (pv 1) pa_nil)) pe_int) (nomark _)) (pss_one (L2N.ps_raise rfl tk (L2N.pmk_own PySem.F.excBase_ValueError exc_NoText.q exc_NoText.g exc_NoText.k (raises_own exc_NoText.b exc_NoText.t) rfl))) pss_nil) (pss_cons (ps_setLcD (i := 2) (K := K) (O := [.sh, .sh, .sh, .sh]) (own := [("word", 3)]) (g := gName 3) (fun _ => d_yes) (fun _ => (DE.o (DO.sh (o_call (da_cons (d_var 3) da_nil))))) (by rfl) sc_read_deed.nd rfl rfl (sw_true rfl rfl rfl (by decide +kernel)) (pi_seq (pe_slice sl_U (pv 1) (po_some pe_int) po_none)) (blkOk_by (own := [("word", 3)]) (N := ["row", "words", "numbers", "word"]) (sc := defScope s_read_deed) (by decide +kernel)) (fun _ _ _ _ _ => (pg_name (i := 3) sc_read_deed.nd rfl (by first | exact Or.inl rfl | exact Or.inr rfl))) (fun _ _ _ _ _ => pts_nil) (fun _ _ _ _ _ => (pe_call G_number_of (hr.mono (by decide)) rfl mg_number_of kp_number_of bi_number_of .nil pass0 (pa_cons (pv 3) pa_nil)))) (pss_cons (ps_if (PW.pt (pw_and (pt_cmpR (op_eqD hr.units) (pe_ix ix_seq (pv 1) pe_int (fun _ _ => rfl)) pe_str (nomark _)) (pw_and1 (pt_cmpR (op_eqD hr.units) (pe_ix ix_seq (pv 1) pe_int (fun _ _ => rfl)) pe_str (nomark _))))) (pss_one (ps_asg pe_int (pg_sub (pv 2) pe_int set_list))) pss_nil) (pss_cons (ps_if (pt_cmpR op_in_seq pe_non (pv 2) (by with_unfolding_all rfl)) (pss_one (L2N.ps_raise rfl tk (L2N.pmk_own PySem.F.excBase_ValueError exc_NoText.q exc_NoText.g exc_NoText.k (raises_own exc_NoText.b exc_NoText.t) rfl))) pss_nil) (pss_cons (ps_if (PW.pt (pw_and (pt_cmpR op_in_seq (pe_ix ix_seq (pv 1) pe_int (fun _ _ => rfl)) (pe_tup (pa_cons pe_str (pa_cons pe_str pa_nil))) (by with_unfolding_all rfl)) (pw_and1 (pt_not (PW.pt (pw_and (pt_cmpR op_ge (pe_ix ix_seq (pv 2) pe_int (fun _ _ => rfl)) pe_int (nomark _)) (pw_and1 (pt_chain op_le op_le pe_int (pe_ix ix_seq (pv 2) pe_int (fun _ _ => rfl)) pe_int)))))))) (pss_one (L2N.ps_raise rfl tk (L2N.pmk_own PySem.F.excBase_ValueError exc_NoText.q exc_NoText.g exc_NoText.k (raises_own exc_NoText.b exc_NoText.t) rfl))) pss_nil) (pss_cons (ps_if (PW.pt (pw_and (pt_cmpR (op_eqD hr.units) (pe_ix ix_seq (pv 1) pe_int (fun _ _ => rfl)) pe_str (nomark _)) (pw_and1 (pt_cmpR (op_eqD hr.units) (pe_ix ix_seq (pv 1) pe_int (fun _ _ => rfl)) pe_str (nomark _))))) (pss_one (ps_asg pe_non (pg_sub (pv 2) pe_int set_list))) pss_nil) (pss_one (ps_ret (pe_callTy call_tuple_of rfl (hB "tuple" (by decide +kernel)) bt_tuple (pa_cons (pe_op op_addU (pe_lst (pa_cons (pe_ix ix_seq (pv 1) pe_int (fun _ _ => rfl)) pa_nil)) (pv 2)) pa_nil))))))))))), fun c hps hrk hmg hox hW => ?_⟩)
  show DC K c [] [.sh, .sh, .sh, .sh] _ b_read_deed _
  exact (c_cons (c_set 1 (d_split (d_var 0) d_str)) (c_cons (c_if (d_test (d_op g_ne (DE.b (d_kget2 (d_op g_ix (DE.b (d_var 1)) (DE.b d_int)) (d_un g_neg (DE.b d_int)))) (DE.b (d_op g_sub (DE.b (d_cb g_len (dab_cons (DE.b (d_var 1)) dab_nil))) (DE.b d_int))))) (c_raise hW (gx_c hmg exc_NoText.g) (ox_none hox)) c_nil) (c_cons (c_setO 2 (o_lc (vs := [3]) (i_seq (d_sl (DE.b (d_var 1)) (p_some d_int) p_none)) (fun _ => (v_name 3)) (fun _ => d_yes) (fun _ => (DE.o (DO.sh (o_call (da_cons (d_var 3) da_nil))))) (by first | decide | (intro v hv; simp only [List.mem_cons, List.not_mem_nil, or_false] at hv; first | (rcases hv with rfl <;> rfl) | (rcases hv with rfl | rfl <;> rfl) | (rcases hv with rfl | rfl | rfl <;> rfl))))) (c_cons (c_if (d_and (d_test (d_op g_eq (DE.b (d_op g_ix (DE.b (d_var 1)) (DE.b d_int))) (DE.b d_str))) (d_test (d_op g_eq (DE.b (d_op g_ix (DE.b (d_var 1)) (DE.b d_int))) (DE.b d_str)))) (c_put 2 d_int d_int) c_nil) (c_cons (c_if (d_test (d_op g_in (DE.b d_non) (d_slot 2))) (c_raise hW (gx_c hmg exc_NoText.g) (ox_none hox)) c_nil) (c_cons (c_if (d_and (d_test (d_op g_in (DE.b (d_op g_ix (DE.b (d_var 1)) (DE.b d_int))) (DE.b (d_tup (da_cons d_str (da_cons d_str da_nil)))))) (d_not (d_and (d_test (d_op g_ge (DE.b (d_op g_ix (d_slot 2) (DE.b d_int))) (DE.b d_int))) (d_test (d_chain g_le g_le d_int (d_op g_ix (d_slot 2) (DE.b d_int)) d_int))))) (c_raise hW (gx_c hmg exc_NoText.g) (ox_none hox)) c_nil) (c_cons (c_if (d_and (d_test (d_op g_eq (DE.b (d_op g_ix (DE.b (d_var 1)) (DE.b d_int))) (DE.b d_str))) (d_test (d_op g_eq (DE.b (d_op g_ix (DE.b (d_var 1)) (DE.b d_int))) (DE.b d_str)))) (c_put 2 d_non d_int) c_nil) (c_ret (d_cb g_tuple (dab_cons (DE.b (d_op g_add (DE.b (d_lst (da_cons (d_op g_ix (DE.b (d_var 1)) (DE.b d_int)) da_nil))) (d_slot 2))) dab_nil)) hrk))))))))
theorem sc_read_deeds : FnScope ["text", "row"] ["text"] (defScope s_read_deeds) := ⟨rfl, rfl, rfl, by decide +kernel, rfl, by decide +kernel, by decide +kernel⟩
theorem ok_read_deeds {f : Addr} {fd : FuncData}  (F : FnP K "read_deeds" s_read_deeds f fd) (hB : ∀ x ∈ bts, mg x = none)     (h_read_deed : FkE P w K mg base "read_deed" 2 ["row"] (spD K mg F_read_deed [.sh] .sh)) : FnOk P w K mg base (L2N.CX P w) 3 f fd ["text"] (spD K mg F_read_deeds [.sh] (.ls .sh)) := by
  obtain ⟨_, _, G_read_deed, mg_read_deed, kp_read_deed, bi_read_deed⟩ := h_read_deed
  show FnOk P w K mg base (L2N.CX P w) (2 + 1) f fd ["text"] (spD K mg (fnD 2 1 (.ls .sh) b_read_deeds) [.sh] (.ls .sh))
  refine fn_okE (k := 2) (ps := [.sh]) (rk := (.ls .sh)) (b := b_read_deeds) (O1 := []) (N := ["text", "row"]) F sc_read_deeds rfl (of_decide_eq_true rfl) (fun cdv A outer s H E hr tk pw => ⟨_, (pss_cons (ps_if (pt_cmpR (op_eqD hr.units) (pv 0) pe_str (nomark _)) (pss_one (ps_ret (pe_lst pa_nil))) pss_nil) (pss_one (ps_ret (ZC.pe_lcX (own := [("row", 1)]) (g := gName 1) (tt := tYes) rfl rfl tk rfl sc_read_deeds.nd (pi_seq (pe_split (pv 0) pe_str)) (blkOk_by (own := [("row", 1)]) (N := ["text", "row"]) (sc := defScope s_read_deeds) (by decide +kernel)) (fun _ _ _ _ _ => (pg_name (i := 1) sc_read_deeds.nd rfl (by first | exact Or.inl rfl | exact Or.inr rfl))) (fun _ _ _ _ _ => pts_nil) (fun _ _ _ _ _ _ V pX => (pe_callS G_read_deed (hr.mono (by decide)) rfl mg_read_deed kp_read_deed bi_read_deed (fun σ => pX σ) (pa_cons (pv 1) pa_nil))))))), fun c hps hrk hmg hox hW => ?_⟩)
  show DC K c [] [.sh, .sh] _ b_read_deeds _
  exact (c_cons (c_if (d_test (d_op g_eq (DE.b (d_var 0)) (DE.b d_str))) (c_retO (o_lst da_nil) hrk) c_nil) (c_retX (x_lcE (vs := [1]) hW (i_seq (d_split (d_var 0) d_str)) (fun _ => (v_name 1)) (fun c' V hmg2 hW hox => (fun hmg => (x_call hW hmg (da_cons (d_var 1) da_nil))) (hmg2.trans hmg)) (by first | decide | (intro v hv; simp only [List.mem_cons, List.not_mem_nil, or_false] at hv; first | (rcases hv with rfl <;> rfl) | (rcases hv with rfl | rfl <;> rfl)))) hrk (ox_none hox)))
theorem sc_law_name_of : FnScope ["e", "kinds", "names", "name", "kind"] ["e"] (defScope s_law_name_of) := ⟨rfl, rfl, rfl, by decide +kernel, rfl, by decide +kernel, by decide +kernel⟩
theorem nm_run : ∀ x n, nmT x.c = some n → ∃ s', b_law_name_of x (entry 5 [.none]) = .rt (.str n) s' := by
  intro x n h
  obtain ⟨xc, xf⟩ := x
  have key : ∀ n v, nmT n = some v → ∃ s', b_law_name_of ⟨n, xf⟩ (entry 5 [.none]) = .rt (.str v) s' := by
    unfold nmT
    refine tbl_row (by exact ⟨_, rfl⟩) ?_
    exact tbl_nil
  exact key xc n h
theorem ok_law_name_of {f : Addr} {fd : FuncData}  {C_NoCell : Addr} {C_NoDeed : Addr} {C_NoFigure : Addr} {C_NoLooks : Addr} {C_NoMore : Addr} {C_NoRoom : Addr} {C_NoRow : Addr} {C_NoTable : Addr} {C_NoText : Addr} {C_NoWork : Addr} {C_Spoilt : Addr} (F : FnP K "_law_name_of" s_law_name_of f fd) (hB : ∀ x ∈ bts, mg x = none)  (gx_NoCell : mg "NoCell" = some (.ref C_NoCell)) (gx_NoDeed : mg "NoDeed" = some (.ref C_NoDeed)) (gx_NoFigure : mg "NoFigure" = some (.ref C_NoFigure)) (gx_NoLooks : mg "NoLooks" = some (.ref C_NoLooks)) (gx_NoMore : mg "NoMore" = some (.ref C_NoMore)) (gx_NoRoom : mg "NoRoom" = some (.ref C_NoRoom)) (gx_NoRow : mg "NoRow" = some (.ref C_NoRow)) (gx_NoTable : mg "NoTable" = some (.ref C_NoTable)) (gx_NoText : mg "NoText" = some (.ref C_NoText)) (gx_NoWork : mg "NoWork" = some (.ref C_NoWork)) (gx_Spoilt : mg "Spoilt" = some (.ref C_Spoilt)) (tb_NoCell : ∀ n b, tbl_NoCell n = some b → ∃ D, mg n = some (.ref D) ∧ ZH.ExT K D ∧ PySem.W.kitOne K (.ref D) (.ref C_NoCell) = some b) (tb_NoDeed : ∀ n b, tbl_NoDeed n = some b → ∃ D, mg n = some (.ref D) ∧ ZH.ExT K D ∧ PySem.W.kitOne K (.ref D) (.ref C_NoDeed) = some b) (tb_NoFigure : ∀ n b, tbl_NoFigure n = some b → ∃ D, mg n = some (.ref D) ∧ ZH.ExT K D ∧ PySem.W.kitOne K (.ref D) (.ref C_NoFigure) = some b) (tb_NoLooks : ∀ n b, tbl_NoLooks n = some b → ∃ D, mg n = some (.ref D) ∧ ZH.ExT K D ∧ PySem.W.kitOne K (.ref D) (.ref C_NoLooks) = some b) (tb_NoMore : ∀ n b, tbl_NoMore n = some b → ∃ D, mg n = some (.ref D) ∧ ZH.ExT K D ∧ PySem.W.kitOne K (.ref D) (.ref C_NoMore) = some b) (tb_NoRoom : ∀ n b, tbl_NoRoom n = some b → ∃ D, mg n = some (.ref D) ∧ ZH.ExT K D ∧ PySem.W.kitOne K (.ref D) (.ref C_NoRoom) = some b) (tb_NoRow : ∀ n b, tbl_NoRow n = some b → ∃ D, mg n = some (.ref D) ∧ ZH.ExT K D ∧ PySem.W.kitOne K (.ref D) (.ref C_NoRow) = some b) (tb_NoTable : ∀ n b, tbl_NoTable n = some b → ∃ D, mg n = some (.ref D) ∧ ZH.ExT K D ∧ PySem.W.kitOne K (.ref D) (.ref C_NoTable) = some b) (tb_NoText : ∀ n b, tbl_NoText n = some b → ∃ D, mg n = some (.ref D) ∧ ZH.ExT K D ∧ PySem.W.kitOne K (.ref D) (.ref C_NoText) = some b) (tb_NoWork : ∀ n b, tbl_NoWork n = some b → ∃ D, mg n = some (.ref D) ∧ ZH.ExT K D ∧ PySem.W.kitOne K (.ref D) (.ref C_NoWork) = some b) (tb_Spoilt : ∀ n b, tbl_Spoilt n = some b → ∃ D, mg n = some (.ref D) ∧ ZH.ExT K D ∧ PySem.W.kitOne K (.ref D) (.ref C_Spoilt) = some b) (tb_ValueError : ∀ n b, tbl_ValueError n = some b → ∃ D, mg n = some (.ref D) ∧ ZH.ExT K D ∧ PySem.W.kitOne K (.ref D) (.type "ValueError") = some b)  : ZH.FnN P w K mg base 1 f fd "e" (spNm K mg nmT) := by
  refine fn_okNm (k := 0) (N := ["e", "kinds", "names", "name", "kind"]) (b := b_law_name_of) (O1 := fun a => [(.xr a), .sh, .sh, .sh, .sh]) F sc_law_name_of (of_decide_eq_true rfl) (fun cdv A outer s H p cls dd hot hz hf hr => ⟨_, (pss_cons (ps_set (i := 1) sc_law_name_of.nd rfl (by first | exact Or.inl rfl | exact Or.inr rfl) (pe_lst (pa_cons (pe_callB (call_isK (K := K) (a := p.1) (oe := p.2) (cls := cls) (dd := dd) List.mem_cons_self hz hf) rfl (hB "isinstance" (by decide +kernel)) bt_isinstance (pa_cons (pv 0) (pa_cons (pe_glob (v := .ref C_NoFigure) rfl gx_NoFigure rfl) pa_nil))) (pa_cons (pe_callB (call_isK (K := K) (a := p.1) (oe := p.2) (cls := cls) (dd := dd) List.mem_cons_self hz hf) rfl (hB "isinstance" (by decide +kernel)) bt_isinstance (pa_cons (pv 0) (pa_cons (pe_glob (v := .ref C_NoLooks) rfl gx_NoLooks rfl) pa_nil))) (pa_cons (pe_callB (call_isK (K := K) (a := p.1) (oe := p.2) (cls := cls) (dd := dd) List.mem_cons_self hz hf) rfl (hB "isinstance" (by decide +kernel)) bt_isinstance (pa_cons (pv 0) (pa_cons (pe_glob (v := .ref C_NoRoom) rfl gx_NoRoom rfl) pa_nil))) (pa_cons (pe_callB (call_isK (K := K) (a := p.1) (oe := p.2) (cls := cls) (dd := dd) List.mem_cons_self hz hf) rfl (hB "isinstance" (by decide +kernel)) bt_isinstance (pa_cons (pv 0) (pa_cons (pe_glob (v := .ref C_NoRow) rfl gx_NoRow rfl) pa_nil))) pa_nil)))))) (pss_cons (ps_set (i := 1) sc_law_name_of.nd rfl (by first | exact Or.inl rfl | exact Or.inr rfl) (pe_op op_addU (pv 1) (pe_lst (pa_cons (pe_callB (call_isK (K := K) (a := p.1) (oe := p.2) (cls := cls) (dd := dd) List.mem_cons_self hz hf) rfl (hB "isinstance" (by decide +kernel)) bt_isinstance (pa_cons (pv 0) (pa_cons (pe_glob (v := .ref C_NoTable) rfl gx_NoTable rfl) pa_nil))) (pa_cons (pe_callB (call_isK (K := K) (a := p.1) (oe := p.2) (cls := cls) (dd := dd) List.mem_cons_self hz hf) rfl (hB "isinstance" (by decide +kernel)) bt_isinstance (pa_cons (pv 0) (pa_cons (pe_glob (v := .ref C_NoText) rfl gx_NoText rfl) pa_nil))) (pa_cons (pe_callB (call_isK (K := K) (a := p.1) (oe := p.2) (cls := cls) (dd := dd) List.mem_cons_self hz hf) rfl (hB "isinstance" (by decide +kernel)) bt_isinstance (pa_cons (pv 0) (pa_cons (pe_glob (v := .ref C_Spoilt) rfl gx_Spoilt rfl) pa_nil))) (pa_cons (pe_callB (call_isK (K := K) (a := p.1) (oe := p.2) (cls := cls) (dd := dd) List.mem_cons_self hz hf) rfl (hB "isinstance" (by decide +kernel)) bt_isinstance (pa_cons (pv 0) (pa_cons (pe_glob (v := .ref C_NoMore) rfl gx_NoMore rfl) pa_nil))) pa_nil))))))) (pss_cons (ps_set (i := 1) sc_law_name_of.nd rfl (by first | exact Or.inl rfl | exact Or.inr rfl) (pe_op op_addU (pv 1) (pe_lst (pa_cons (pe_callB (call_isK (K := K) (a := p.1) (oe := p.2) (cls := cls) (dd := dd) List.mem_cons_self hz hf) rfl (hB "isinstance" (by decide +kernel)) bt_isinstance (pa_cons (pv 0) (pa_cons (pe_glob (v := .ref C_NoWork) rfl gx_NoWork rfl) pa_nil))) (pa_cons (pe_callB (call_isK (K := K) (a := p.1) (oe := p.2) (cls := cls) (dd := dd) List.mem_cons_self hz hf) rfl (hB "isinstance" (by decide +kernel)) bt_isinstance (pa_cons (pv 0) (pa_cons (pe_glob (v := .ref C_NoCell) rfl gx_NoCell rfl) pa_nil))) (pa_cons (pe_callB (call_isK (K := K) (a := p.1) (oe := p.2) (cls := cls) (dd := dd) List.mem_cons_self hz hf) rfl (hB "isinstance" (by decide +kernel)) bt_isinstance (pa_cons (pv 0) (pa_cons (pe_glob (v := .ref C_NoDeed) rfl gx_NoDeed rfl) pa_nil))) (pa_cons (pe_callB (call_isK (K := K) (a := p.1) (oe := p.2) (cls := cls) (dd := dd) List.mem_cons_self hz hf) rfl (hB "isinstance" (by decide +kernel)) bt_isinstance (pa_cons (pv 0) (pa_cons (pe_bltn (v := .ty "ValueError") rfl (hB "ValueError" (by decide +kernel)) bt_ve rfl) pa_nil))) pa_nil))))))) (pss_cons (ps_set (i := 2) sc_law_name_of.nd rfl (by first | exact Or.inl rfl | exact Or.inr rfl) (pe_lst (pa_cons pe_str (pa_cons pe_str (pa_cons pe_str (pa_cons pe_str (pa_cons pe_str (pa_cons pe_str (pa_cons pe_str (pa_cons pe_str (pa_cons pe_str (pa_cons pe_str pa_nil)))))))))))) (pss_one (ps_ret (pe_bm PySem.F.plainAttrs_str PySem.F.slot_str_join PySem.F.type_str_join mt_join pe_str (pa_cons (pe_lczD (K := K) (O := [(.xr p.1), .sh, .sh, .sh, .sh]) (own := [("name", 3), ("kind", 4)]) (fun _ => (d_tB (d_var 4))) (fun _ => (DE.o (d_var 3))) hot List.mem_cons_self sc_law_name_of.nd rfl (hB "zip" (by decide +kernel)) (pa_cons (pe_op op_addU (pv 2) (pe_lst (pa_cons pe_str (pa_cons pe_str pa_nil)))) (pa_cons (pv 1) pa_nil)) (blkOk_by (own := [("name", 3), ("kind", 4)]) (N := ["e", "kinds", "names", "name", "kind"]) (sc := defScope s_law_name_of) (by decide +kernel)) (fun _ _ _ _ _ => (pgs_cons (pg_name (i := 3) sc_law_name_of.nd rfl (by first | exact Or.inl rfl | exact Or.inr rfl)) (pgs_cons (pg_name (i := 4) sc_law_name_of.nd rfl (by first | exact Or.inl rfl | exact Or.inr rfl)) pgs_nil))) (fun _ => rfl) (fun _ => rfl) (fun _ _ _ _ _ => (pts_one (pt_val (pv 4)))) (fun _ _ _ _ _ => (pv 3))) pa_nil)))))))), fun c x hrk hmg hex => ?_⟩) nm_run
  exact (c_cons (c_set 1 (d_lst (da_cons (d_isX 0 (cv := (.ref C_NoFigure)) (v := .ref C_NoFigure) rfl hex (fun u h => h) (tb_c hmg tb_NoFigure)) (da_cons (d_isX 0 (cv := (.ref C_NoLooks)) (v := .ref C_NoLooks) rfl hex (fun u h => h) (tb_c hmg tb_NoLooks)) (da_cons (d_isX 0 (cv := (.ref C_NoRoom)) (v := .ref C_NoRoom) rfl hex (fun u h => h) (tb_c hmg tb_NoRoom)) (da_cons (d_isX 0 (cv := (.ref C_NoRow)) (v := .ref C_NoRow) rfl hex (fun u h => h) (tb_c hmg tb_NoRow)) da_nil)))))) (c_cons (c_set 1 (d_op g_add (DE.b (d_var 1)) (DE.b (d_lst (da_cons (d_isX 0 (cv := (.ref C_NoTable)) (v := .ref C_NoTable) rfl hex (fun u h => h) (tb_c hmg tb_NoTable)) (da_cons (d_isX 0 (cv := (.ref C_NoText)) (v := .ref C_NoText) rfl hex (fun u h => h) (tb_c hmg tb_NoText)) (da_cons (d_isX 0 (cv := (.ref C_Spoilt)) (v := .ref C_Spoilt) rfl hex (fun u h => h) (tb_c hmg tb_Spoilt)) (da_cons (d_isX 0 (cv := (.ref C_NoMore)) (v := .ref C_NoMore) rfl hex (fun u h => h) (tb_c hmg tb_NoMore)) da_nil)))))))) (c_cons (c_set 1 (d_op g_add (DE.b (d_var 1)) (DE.b (d_lst (da_cons (d_isX 0 (cv := (.ref C_NoWork)) (v := .ref C_NoWork) rfl hex (fun u h => h) (tb_c hmg tb_NoWork)) (da_cons (d_isX 0 (cv := (.ref C_NoCell)) (v := .ref C_NoCell) rfl hex (fun u h => h) (tb_c hmg tb_NoCell)) (da_cons (d_isX 0 (cv := (.ref C_NoDeed)) (v := .ref C_NoDeed) rfl hex (fun u h => h) (tb_c hmg tb_NoDeed)) (da_cons (d_isX 0 (cv := (.type "ValueError")) (v := .ty "ValueError") rfl hex (fun u h => h) (tb_c hmg tb_ValueError)) da_nil)))))))) (c_cons (c_set 2 (d_lst (da_cons d_str (da_cons d_str (da_cons d_str (da_cons d_str (da_cons d_str (da_cons d_str (da_cons d_str (da_cons d_str (da_cons d_str (da_cons d_str da_nil)))))))))))) (c_ret (d_join (DO.e (o_lc (vs := [3, 4]) (i_zip1 (da_cons (d_op g_add (DE.b (d_var 2)) (DE.b (d_lst (da_cons d_str (da_cons d_str da_nil))))) (da_cons (d_var 1) da_nil))) (fun _ => (v_tup (vs_cons (v_name 3) (vs_cons (v_name 4) vs_nil)))) (fun _ => (d_tB (d_var 4))) (fun _ => (DE.o (d_var 3))) (by first | decide | exact of_decide_eq_true rfl | (intro v hv; simp only [List.mem_cons, List.not_mem_nil, or_false] at hv; rcases hv with rfl | rfl <;> rfl))))) hrk)))))
theorem sc_law_told : FnScope ["text", "told", "fault", "e"] ["text"] (defScope s_law_told) := ⟨rfl, rfl, rfl, by decide +kernel, rfl, by decide +kernel, by decide +kernel⟩
theorem ok_law_told {f : Addr} {fd : FuncData}  {C_SlackError : Addr} (F : FnP K "_law_told" s_law_told f fd) (hB : ∀ x ∈ bts, mg x = none)  (gx_SlackError : mg "SlackError" = some (.ref C_SlackError)) (sb_subc_SlackError : ∀ n v, subc_SlackError n = some v → ∀ cls, mg n = some cls → PySem.W.exmOne K cls (.ref C_SlackError) = some v)   (h_read_deeds : FkE P w K mg base "read_deeds" 3 ["text"] (spD K mg F_read_deeds [.sh] (.ls .sh))) (h_law_name_of : FkN P w K mg base "_law_name_of" "e" 1 (spNm K mg nmT)) : FnOk P w K mg base CX0 4 f fd ["text"] (spD K mg F_law_told [.sh] (tcs [(.op (.ls .sh)), .sh])) := by
  obtain ⟨_, _, G_read_deeds, mg_read_deeds, kp_read_deeds, bi_read_deeds⟩ := h_read_deeds
  obtain ⟨_, _, G_law_name_of, mg_law_name_of, kp_law_name_of, bi_law_name_of⟩ := h_law_name_of
  show FnOk P w K mg base CX0 (3 + 1) f fd ["text"] (spD K mg (fnD 4 1 (tcs [(.op (.ls .sh)), .sh]) b_law_told) [.sh] (tcs [(.op (.ls .sh)), .sh]))
  refine fn_ok (k := 3) (ps := [.sh]) (rk := (tcs [(.op (.ls .sh)), .sh])) (b := b_law_told) (O1 := []) (N := ["text", "told", "fault", "e"]) F sc_law_told rfl (of_decide_eq_true rfl) (fun cdv A outer s H E hr => ⟨_, (pss_cons (ps_set (i := 1) sc_law_told.nd rfl (by first | exact Or.inl rfl | exact Or.inr rfl) pe_non) (pss_cons (ps_set (i := 2) sc_law_told.nd rfl (by first | exact Or.inl rfl | exact Or.inr rfl) pe_str) (pss_cons (ps_tryAsD (i := 3) rfl rfl sc_law_told.nd rfl rfl ⟨rfl, by decide, .inl gx_SlackError⟩ ZH.takesN0 (fun W pn xe tk pw => (pss_cons (ps_set (i := 1) sc_law_told.nd rfl (by first | exact Or.inl rfl | exact Or.inr rfl) (pe_callS G_read_deeds (hr.mono (by decide)) rfl mg_read_deeds kp_read_deeds bi_read_deeds (fun σ => L2N.passAt tk σ) (pa_cons (pv 0) pa_nil))) pss_nil)) (fun a oe cls d pn hz hf => (pss_cons (ps_set (i := 2) sc_law_told.nd rfl (by first | exact Or.inl rfl | exact Or.inr rfl) (ZH.pe_callN G_law_name_of (hr.mono (by decide)) hz hf rfl mg_law_name_of kp_law_name_of bi_law_name_of (pa_cons (pv 3) pa_nil))) pss_nil))) (pss_one (ps_ret (pe_tup (pa_cons (pv 1) (pa_cons (pv 2) pa_nil)))))))), fun c hps hrk hmg => ?_⟩)
  show DC K c [] [.sh, .sh, .sh, .sh] _ b_law_told _
  exact (c_cons (c_set 1 d_non) (c_cons (c_set 2 d_str) (c_cons (c_tryAsD (O := [.sh, .sh, .sh, .sh]) (O1 := [.sh, (.op (.ls .sh)), .sh, .sh]) 3 (of_decide_eq_true rfl) rfl rfl (.inl rfl) (sb_c hmg sb_subc_SlackError) (.inl (tbl_yes rfl)) (fun c e1 e2 e3 hox => (fun hps hrk hmg hW => (c_cons (c_setX 1 (x_call hW hmg (da_cons (d_var 0) da_nil)) (ox_some hox)) (c_toOp 1 rfl rfl (by first | decide | exact of_decide_eq_true rfl) c_nil))) (e1.trans hps) (e2.trans hrk) (e3.trans hmg) (rfl : c.W = c.W)) (fun c a cls d x e1 e2 e3 hsu hex => (fun hps hrk hmg => (c_cons (c_set 2 (d_nm 3 rfl hmg hex)) (c_noneOp (k := (.ls .sh)) 1 rfl rfl (by first | decide | exact of_decide_eq_true rfl) c_nil))) (e1.trans hps) (e2.trans hrk) (e3.trans hmg))) (c_retO (o_tupG (ks := [(.op (.ls .sh)), .sh]) (dag_s 1 true (dag_e (d_var 2) dag_nil)) (.mv rfl rfl rfl (.e .nil))) hrk))))
theorem sc_law : FnScope ["script", "deck", "deeds", "handed", "text", "cell", "bent", "turn", "due", "told", "fault"] ["script"] (defScope s_law) := ⟨rfl, rfl, rfl, by decide +kernel, rfl, by decide +kernel, by decide +kernel⟩
theorem ok_law {f : Addr} {fd : FuncData}  (F : FnP K "law" s_law f fd) (hB : ∀ x ∈ bts, mg x = none)     (h_law_deck : Fk P w K mg base "_law_deck" 1 ["cell", "turn"] (spD K mg F_law_deck [.sh, .sh] (.ls .sh))) (h_law_deeds : Fk P w K mg base "_law_deeds" 3 ["deck"] (spD K mg F_law_deeds [(.pm (.ls .sh))] .sh)) (h_show_deeds : Fk P w K mg base "show_deeds" 2 ["deeds"] (spD K mg F_show_deeds [.sh] .sh)) (h_law_text : Fk P w K mg base "_law_text" 1 ["deeds"] (spD K mg F_law_text [.sh] .sh)) (h_law_pick : Fk P w K mg base "_law_pick" 1 ["deck", "many"] (spD K mg F_law_pick [(.pm (.ls .sh)), .sh] .sh)) (h_law_bent : Fk P w K mg base "_law_bent" 3 ["deck", "text", "joints"] (spD K mg F_law_bent [(.pm (.ls .sh)), .sh, .sh] .sh)) (h_law_read : Fk P w K mg base "_law_read" 3 ["text"] (spD K mg F_law_read [.sh] .sh)) (h_law_told : Fk P w K mg base "_law_told" 4 ["text"] (spD K mg F_law_told [.sh] (tcs [(.op (.ls .sh)), .sh]))) : FnOk P w K mg base CX0 5 f fd ["script"] (spD K mg F_law [.sh] .sh) := by
  obtain ⟨_, _, G_law_deck, mg_law_deck, kp_law_deck, bi_law_deck⟩ := h_law_deck
  obtain ⟨_, _, G_law_deeds, mg_law_deeds, kp_law_deeds, bi_law_deeds⟩ := h_law_deeds
  obtain ⟨_, _, G_show_deeds, mg_show_deeds, kp_show_deeds, bi_show_deeds⟩ := h_show_deeds
  obtain ⟨_, _, G_law_text, mg_law_text, kp_law_text, bi_law_text⟩ := h_law_text
  obtain ⟨_, _, G_law_pick, mg_law_pick, kp_law_pick, bi_law_pick⟩ := h_law_pick
  obtain ⟨_, _, G_law_bent, mg_law_bent, kp_law_bent, bi_law_bent⟩ := h_law_bent
  obtain ⟨_, _, G_law_read, mg_law_read, kp_law_read, bi_law_read⟩ := h_law_read
  obtain ⟨_, _, G_law_told, mg_law_told, kp_law_told, bi_law_told⟩ := h_law_told
  show FnOk P w K mg base CX0 (4 + 1) f fd ["script"] (spD K mg (fnD 11 1 .sh b_law) [.sh] .sh)
  refine fn_ok (k := 4) (ps := [.sh]) (rk := .sh) (b := b_law) (O1 := []) (N := ["script", "deck", "deeds", "handed", "text", "cell", "bent", "turn", "due", "told", "fault"]) F sc_law rfl (of_decide_eq_true rfl) (fun cdv A outer s H E hr => ⟨_, (pss_cons (ps_set (i := 1) sc_law.nd rfl (by first | exact Or.inl rfl | exact Or.inr rfl) (pe_call G_law_deck (hr.mono (by decide)) rfl mg_law_deck kp_law_deck bi_law_deck .nil pass0 (pa_cons (pe_ix ix_seq (pe_op op_addU (pv 0) (pe_lst (pa_cons pe_int pa_nil))) pe_int (fun _ _ => rfl)) (pa_cons pe_int pa_nil)))) (pss_cons (ps_set (i := 2) sc_law.nd rfl (by first | exact Or.inl rfl | exact Or.inr rfl) (pe_call G_law_deeds (hr.mono (by decide)) rfl mg_law_deeds kp_law_deeds bi_law_deeds .nil pass0 (pa_cons (pv 1) pa_nil))) (pss_cons (ps_set (i := 3) sc_law.nd rfl (by first | exact Or.inl rfl | exact Or.inr rfl) (pe_callTy call_list_of rfl (hB "list" (by decide +kernel)) bt_list (pa_cons (pv 2) pa_nil))) (pss_cons (ps_set (i := 4) sc_law.nd rfl (by first | exact Or.inl rfl | exact Or.inr rfl) (pe_call G_show_deeds (hr.mono (by decide)) rfl mg_show_deeds kp_show_deeds bi_show_deeds .nil pass0 (pa_cons (pv 3) pa_nil))) (pss_cons (ps_if (PW.pt (pw_or (pt_not (pt_val (pe_callB call_isi rfl (hB "isinstance" (by decide +kernel)) bt_isinstance (pa_cons (pv 4) (pa_cons (pe_bltn (v := .ty "str") rfl (hB "str" (by decide +kernel)) bt_str rfl) pa_nil))))) (pw_or (pt_cmpR (op_neD hr.units) (pv 4) (pe_call G_law_text (hr.mono (by decide)) rfl mg_law_text kp_law_text bi_law_text .nil pass0 (pa_cons (pv 2) pa_nil)) (nomark _)) (pw_or1 (pt_cmpR (op_neD hr.units) (pv 3) (pv 2) (nomark _)))))) (pss_one (ps_ret pe_bl)) pss_nil) (pss_cons (ps_for PassesOwn.never rfl (pi_seq (pe_op op_addU (pe_slice sl_U (pv 0) (po_some pe_int) (po_some pe_int)) (pe_lst (pa_cons pe_int pa_nil)))) (pg_name (i := 5) sc_law.nd rfl (by first | exact Or.inl rfl | exact Or.inr rfl)) (pss_cons (ps_set (i := 1) sc_law.nd rfl (by first | exact Or.inl rfl | exact Or.inr rfl) (pe_call G_law_deck (hr.mono (by decide)) rfl mg_law_deck kp_law_deck bi_law_deck .nil pass0 (pa_cons (pv 5) (pa_cons pe_int pa_nil)))) (pss_cons (ps_set (i := 6) sc_law.nd rfl (by first | exact Or.inl rfl | exact Or.inr rfl) (pv 4)) (pss_cons (ps_for PassesOwn.never rfl (pi_range1 rfl (hB "range" (by decide +kernel)) (pa_cons (pe_call G_law_pick (hr.mono (by decide)) rfl mg_law_pick kp_law_pick bi_law_pick .nil pass0 (pa_cons (pv 1) (pa_cons pe_int pa_nil))) pa_nil)) (pg_name (i := 7) sc_law.nd rfl (by first | exact Or.inl rfl | exact Or.inr rfl)) (pss_one (ps_set (i := 6) sc_law.nd rfl (by first | exact Or.inl rfl | exact Or.inr rfl) (pe_call G_law_bent (hr.mono (by decide)) rfl mg_law_bent kp_law_bent bi_law_bent .nil pass0 (pa_cons (pv 1) (pa_cons (pv 6) (pa_cons (pe_lst (pa_cons pe_str (pa_cons pe_str pa_nil))) pa_nil))))))) (pss_cons (ps_set (i := 8) sc_law.nd rfl (by first | exact Or.inl rfl | exact Or.inr rfl) (pe_call G_law_read (hr.mono (by decide)) rfl mg_law_read kp_law_read bi_law_read .nil pass0 (pa_cons (pv 6) pa_nil))) (pss_one (ps_for PassesOwn.never rfl (pi_range1 rfl (hB "range" (by decide +kernel)) (pa_cons pe_int pa_nil)) (pg_name (i := 7) sc_law.nd rfl (by first | exact Or.inl rfl | exact Or.inr rfl)) (pss_cons (ps_asg (pe_call G_law_told (hr.mono (by decide)) rfl mg_law_told kp_law_told bi_law_told .nil pass0 (pa_cons (pv 6) pa_nil)) (pg_tup rfl (pgs_cons (pg_name (i := 9) sc_law.nd rfl (by first | exact Or.inl rfl | exact Or.inr rfl)) (pgs_cons (pg_name (i := 10) sc_law.nd rfl (by first | exact Or.inl rfl | exact Or.inr rfl)) pgs_nil)))) (pss_one (ps_if (pt_cmpR op_isN (pv 8) pe_non (nomark _)) (pss_one (ps_if (PW.pt (pw_or (pt_cmpR op_notN (pv 9) pe_non (nomark _)) (pw_or1 (pt_cmpR (op_neD hr.units) (pv 10) pe_str (nomark _))))) (pss_one (ps_ret pe_bl)) pss_nil)) (pss_cons (ps_if (PW.pt (pw_or (pt_cmpR (op_neD hr.units) (pv 10) pe_str (nomark _)) (pw_or (pt_not (pt_val (pe_callB call_isi rfl (hB "isinstance" (by decide +kernel)) bt_isinstance (pa_cons (pv 9) (pa_cons (pe_bltn (v := .ty "list") rfl (hB "list" (by decide +kernel)) bt_list rfl) pa_nil))))) (pw_or1 (pt_cmpR (op_neD hr.units) (pv 9) (pv 8) (nomark _)))))) (pss_one (ps_ret pe_bl)) pss_nil) (pss_cons (ps_expr (pe_bm PySem.F.plainAttrs_list PySem.F.slot_list_append PySem.F.type_list_append mt_append (pv 9) (pa_cons pe_non pa_nil))) pss_nil)))))))))))) (pss_cons (ps_for PassesOwn.never rfl (pi_seq (pe_lst (pa_cons (pe_op op_addU (pv 4) pe_str) (pa_cons pe_str (pa_cons pe_str pa_nil))))) (pg_name (i := 6) sc_law.nd rfl (by first | exact Or.inl rfl | exact Or.inr rfl)) (pss_one (ps_if (pt_cmpR (op_neD hr.units) (pe_call G_law_told (hr.mono (by decide)) rfl mg_law_told kp_law_told bi_law_told .nil pass0 (pa_cons (pv 6) pa_nil)) (pe_tup (pa_cons pe_non (pa_cons pe_str pa_nil))) (nomark _)) (pss_one (ps_ret pe_bl)) pss_nil))) (pss_one (ps_ret pe_bl))))))))), fun c hps hrk hmg => ?_⟩)
  show DC K c [] [.sh, .sh, .sh, .sh, .sh, .sh, .sh, .sh, .sh, .sh, .sh] _ b_law _
  exact (c_cons (c_setO 1 (o_call (da_cons (d_op g_ix (DE.b (d_op g_add (DE.b (d_var 0)) (DE.b (d_lst (da_cons d_int da_nil))))) (DE.b d_int)) (da_cons d_int da_nil)))) (c_cons (c_set 2 (DO.sh (o_call1 1 (k := .ls .sh) da_nil (.inl rfl)))) (c_cons (c_set 3 (d_cb g_list (dab_cons (DE.b (d_var 2)) dab_nil))) (c_cons (c_set 4 (DO.sh (o_call (da_cons (d_var 3) da_nil)))) (c_cons (c_if (d_or (d_not (d_tB (d_isi "str" (DE.b (d_var 4))))) (d_or (d_test (d_op g_ne (DE.b (d_var 4)) (DE.b (DO.sh (o_call (da_cons (d_var 2) da_nil)))))) (d_test (d_op g_ne (DE.b (d_var 3)) (DE.b (d_var 2)))))) (c_ret d_bl hrk) c_nil) (c_cons (c_for (i_seq (d_op g_add (DE.b (d_sl (DE.b (d_var 0)) (p_some d_int) (p_some d_int))) (DE.b (d_lst (da_cons d_int da_nil))))) (g_name 5) (c_cons (c_setO 1 (o_call (da_cons (d_var 5) (da_cons d_int da_nil)))) (c_cons (c_set 6 (d_var 4)) (c_cons (c_for (i_r1 (da_cons (DO.sh (o_call1 1 (k := .ls .sh) (da_cons d_int da_nil) (.inl rfl))) da_nil)) (g_name 7) (c_set 6 (DO.sh (o_call1 1 (k := .ls .sh) (da_cons (d_var 6) (da_cons (d_lst (da_cons d_str (da_cons d_str da_nil))) da_nil)) (.inl rfl))))) (c_cons (c_set 8 (DO.sh (o_call (da_cons (d_var 6) da_nil)))) (c_for (i_r1 (da_cons d_int da_nil)) (g_name 7) (c_cons (c_asgT [9, 10] (ks := [(.op (.ls .sh)), .sh]) (o_call (da_cons (d_var 6) da_nil)) rfl rfl (by intro i hi; simp only [List.mem_cons, List.not_mem_nil, or_false] at hi; rcases hi with rfl | rfl <;> exact ⟨of_decide_eq_true rfl, rfl⟩) (by intro i hi; simp only [List.mem_cons, List.not_mem_nil, or_false] at hi; rcases hi with rfl | rfl <;> rfl)) (c_if (d_test (d_op g_isN (DE.b (d_var 8)) (DE.b d_non))) (c_opNone 9 rfl rfl (by first | decide | exact of_decide_eq_true rfl) (c_if (d_or (d_test (d_op g_notN (DE.b (d_var 9)) (DE.b d_non))) (d_test (d_op g_ne (DE.b (d_var 10)) (DE.b d_str)))) (c_ret d_bl hrk) c_nil)) (c_opSome 9 rfl rfl (by first | decide | exact of_decide_eq_true rfl) (c_cons (c_if (d_or (d_test (d_op g_ne (DE.b (d_var 10)) (DE.b d_str))) (d_or (d_not (d_tB (d_isi "list" (d_slot 9)))) (d_test (d_op g_ne (d_slot 9) (DE.b (d_var 8)))))) (c_ret d_bl hrk) c_nil) (c_cons (c_app 9 d_non) (c_frz 9 rfl c_nil)))))))))))) (c_cons (c_for (i_seq (d_lst (da_cons (d_op g_add (DE.b (d_var 4)) (DE.b d_str)) (da_cons d_str (da_cons d_str da_nil))))) (g_name 6) (c_if (d_test (d_op g_ne (DE.b (DO.eS (o_call (da_cons (d_var 6) da_nil)))) (DE.b (d_tup (da_cons d_non (da_cons d_str da_nil)))))) (c_ret d_bl hrk) c_nil)) (c_ret d_bl hrk))))))))
end
set_option Elab.async false
set_option linter.all false
set_option maxRecDepth 100000
set_option maxHeartbeats 1000000
local macro_rules | `(tactic| walk_at "z") => `(tactic| try simp (config := { dsimp := false }) only [↓xv_lcE, ↓ev_bin, ↓ev_itS, so_stf, so_eqS, so_neS, so_slS, so_lenS, so_ixS, so_addS, so_kget2I, so_strUI, so_strUS, so_strI, so_intS, so_splitD, so_joinT, so_le0, so_le9, so_dig, ↓run_hole2, so_fill2, so_pairOf, gone3_eq, ↓ev_ixTQ, ↓run_holeX, ↓ev_okOf, ↓xv_methQ, ↓xv_holeQ, ↓xv_lnO, ↓ev_enumQ, ↓run_dropS, ↓run_recUpd, so_restD, so_updD, uk0, ukC, one0, oneE, oneO, no0, noO, pa0, paC, ↓ev_eqE, ↓ev_neE, ↓run_appN, ↓run_par, ↓run_par3, so_two2, so_three3, p1_eq, p2_eq, ↓xv_sel, ↓xv_xmk, ↓xv_make, ↓run_appLX, ↓ev_sortDQ, ↓ev_dgetQ, ↓ev_enumz, so_enumz, ↓ev_R3, so_r3, ↓run_appL, ↓ev_lnN, ↓ev_ln, ↓ev_lnS, ↓ev_altC, ↓ev_methQC, ↓ev_methC, clsD_is, ↓run_hole, so_fill, ↓ev_holeQ, so_gFd, ↓run_fldI, ↓run_dputP, ↓ev_dget2Q, ↓ev_lenQ, so_lenQ, which_1, ↓ev_lnO, ↓ev_tupO, ↓ev_lstO, ↓ev_seq0, ↓ev_seqC, ↓ev_fldQ, ↓ev_ixQ, ↓run_rput, ↓ev_plFd, ↓ev_recs0, ↓ev_recsC, ↓ev_recd, so_fldO, ↓ev_methQ, ↓ev_callP0, ↓ev_methP, ↓ev_callP1, so_twoO, so_getF, so_setF, so_ixPP, app_ps, app_pn, pdN, pdC, pdE, pdO, pmN, pmC, pmE, pmO, isS, List.length_set, Bool.true_and, nr_kind_summer, nr_summer_kind, nr_summer_rows, nr_summer_figures, nr_summer_ended, nr_rows_summer, nr_rows_figures, nr_rows_ended, nr_figures_summer, nr_figures_rows, nr_ended_summer, nr_ended_rows, nr_table_works, nr_table_seen, nr_table_deeds, nr_works_table, nr_seen_table, nr_deeds_table, nr_word_numbers, nr_word_left, nr_word_row, nr_word_wide, nr_word_great, nr_word_stand, nr_numbers_word, nr_numbers_row, nr_left_word, nr_left_row, nr_row_word, nr_row_numbers, nr_row_left, nr_row_wide, nr_row_great, nr_row_stand, nr_wide_word, nr_wide_row, nr_great_word, nr_great_row, nr_stand_word, nr_stand_row, nr_desk_kind, nr_desk_looks, nr_desk_sight, nr_desk_table, nr_kind_desk, nr_looks_desk, nr_sight_desk, nr_table_desk, ↓ev_dget, ↓ev_dget2, ↓ev_din, ↓run_dput, ↓ev_dnew, ↓ev_disp, ↓ev_prs0, ↓ev_prsC, ↓ev_keysS, ↓run_lock, ↓ev_maxD, ↓ev_dlen, ↓ev_sortD, so_dct, so_dictL, so_sum, ky_i, ky_p, ky_n, prs1, dput0, flN0, flC0, ↓run_setX, ↓run_dropX, ↓run_retX, ↓run_asgX, ↓run_raise, ↓run_raiseF, ↓run_tryAs, ↓run_tryOnly, ↓evX_of, ↓xv_xcall, ↓xv_xcall1, ↓xv_xcallG, ↓xv_xmeth, ↓xv_xop, ↓xv_xtup, ↓xv_xif, ↓xv_xlc, ↓ev_rev, ↓run_when, yesD_t, nonB_n, notNon_l, ↓ev_here, ↓ev_zip, ↓ev_zip1, ↓ev_join, so_two, ↓run_nx, ↓run_no, ↓run_bk, ↓run_ct, ↓run_seq, ↓run_set, ↓run_drop, ↓run_ret, ↓run_asg, ↓run_app, ↓run_put, ↓run_aug, ↓run_frz, ↓run_kill, ↓xr_if, ↓ev_lc, ↓ev_yes, ↓run_ext, ↓ev_enum, ↓run_asgT, ↓run_retM, ↓run_fld, ↓ev_fld, ↓ev_at, ↓xv_callG, ↓xv_tupG, ↓xv_meth, ↓xv_xmk, ↓ev_move, so_tof, so_nonO, so_fillN, so_fillE, so_fillS, bkG0, bkGE, bkGF, bkGT, stD0, stDC, so_dof, so_noFd, fdN, fdC, fdE, fdO, ptN, ptC, ptE, ptO, nm_ahead_end, nm_ahead_ended, nm_ahead_figures, nm_ahead_is_figure, nm_ahead_kind, nm_ahead_last, nm_ahead_parted, nm_ahead_put, nm_ahead_told, nm_ask_cell_kind, nm_ask_cell_looks, nm_ask_cell_sight, nm_ask_cell_table, nm_base_below, nm_base_held, nm_base_put, nm_base_under, nm_base_upper, nm_begin_done, nm_begin_figures, nm_begin_great, nm_begin_kind, nm_begin_left, nm_begin_looks, nm_begin_numbers, nm_begin_rows, nm_begin_seen, nm_begin_stand, nm_begin_wide, nm_begin_works, nm_begin_rows_done, nm_begin_rows_kind, nm_begin_rows_looks, nm_begin_rows_rows, nm_begin_rows_seen, nm_begin_rows_works, nm_below_base, nm_below_under, nm_below_upper, nm_deeds_done, nm_deeds_kind, nm_deeds_looks, nm_deeds_rows, nm_deeds_seen, nm_deeds_works, nm_divided_kind, nm_divided_looks, nm_divided_sight, nm_divided_table, nm_done_begin, nm_done_begin_rows, nm_done_deeds, nm_done_entries, nm_done_go, nm_done_kind, nm_done_looked, nm_done_looks, nm_done_put, nm_done_rest, nm_done_row, nm_done_rows, nm_done_seen, nm_done_work, nm_done_works, nm_done_wrong, nm_end_ahead, nm_end_ended, nm_end_figures, nm_end_kind, nm_end_last, nm_ended_ahead, nm_ended_end, nm_ended_figures, nm_ended_is_figure, nm_ended_kind, nm_ended_last, nm_ended_parted, nm_ended_put, nm_ended_told, nm_entered_kind, nm_entered_looks, nm_entered_sight, nm_entered_table, nm_entries_done, nm_entries_kind, nm_entries_looks, nm_entries_rows, nm_entries_seen, nm_entries_works, nm_figures_ahead, nm_figures_begin, nm_figures_end, nm_figures_ended, nm_figures_great, nm_figures_is_figure, nm_figures_kind, nm_figures_last, nm_figures_left, nm_figures_looks, nm_figures_numbers, nm_figures_parted, nm_figures_put, nm_figures_rest, nm_figures_stand, nm_figures_told, nm_figures_tried, nm_figures_wide, nm_go_done, nm_go_kind, nm_go_looks, nm_go_rows, nm_go_seen, nm_go_works, nm_great_begin, nm_great_figures, nm_great_kind, nm_great_left, nm_great_looks, nm_great_numbers, nm_great_rest, nm_great_stand, nm_great_tried, nm_great_wide, nm_held_base, nm_held_under, nm_held_upper, nm_is_figure_ahead, nm_is_figure_ended, nm_is_figure_figures, nm_is_figure_kind, nm_is_figure_last, nm_kind_ahead, nm_kind_ask_cell, nm_kind_begin, nm_kind_begin_rows, nm_kind_deeds, nm_kind_divided, nm_kind_done, nm_kind_end, nm_kind_ended, nm_kind_entered, nm_kind_entries, nm_kind_figures, nm_kind_go, nm_kind_great, nm_kind_is_figure, nm_kind_last, nm_kind_left, nm_kind_looked, nm_kind_looks, nm_kind_numbers, nm_kind_parted, nm_kind_put, nm_kind_put_all, nm_kind_rest, nm_kind_row, nm_kind_rows, nm_kind_say, nm_kind_seen, nm_kind_sight, nm_kind_stand, nm_kind_table, nm_kind_told, nm_kind_tried, nm_kind_turned, nm_kind_wide, nm_kind_work, nm_kind_works, nm_kind_wrong, nm_last_ahead, nm_last_end, nm_last_ended, nm_last_figures, nm_last_is_figure, nm_last_kind, nm_last_parted, nm_last_put, nm_last_told, nm_left_begin, nm_left_figures, nm_left_great, nm_left_kind, nm_left_looks, nm_left_numbers, nm_left_rest, nm_left_stand, nm_left_tried, nm_left_wide, nm_look_top, nm_looked_done, nm_looked_kind, nm_looked_looks, nm_looked_rows, nm_looked_seen, nm_looked_sight, nm_looked_table, nm_looked_works, nm_looks_ask_cell, nm_looks_begin, nm_looks_begin_rows, nm_looks_deeds, nm_looks_divided, nm_looks_done, nm_looks_entered, nm_looks_entries, nm_looks_figures, nm_looks_go, nm_looks_great, nm_looks_kind, nm_looks_left, nm_looks_looked, nm_looks_numbers, nm_looks_put, nm_looks_put_all, nm_looks_rest, nm_looks_row, nm_looks_rows, nm_looks_say, nm_looks_seen, nm_looks_sight, nm_looks_stand, nm_looks_table, nm_looks_told, nm_looks_tried, nm_looks_turned, nm_looks_wide, nm_looks_work, nm_looks_works, nm_looks_wrong, nm_numbers_begin, nm_numbers_figures, nm_numbers_great, nm_numbers_kind, nm_numbers_left, nm_numbers_looks, nm_numbers_rest, nm_numbers_stand, nm_numbers_tried, nm_numbers_wide, nm_parted_ahead, nm_parted_ended, nm_parted_figures, nm_parted_kind, nm_parted_last, nm_put_ahead, nm_put_base, nm_put_done, nm_put_ended, nm_put_figures, nm_put_kind, nm_put_last, nm_put_looks, nm_put_rows, nm_put_seen, nm_put_under, nm_put_upper, nm_put_works, nm_put_all_kind, nm_put_all_looks, nm_put_all_sight, nm_put_all_table, nm_rest_done, nm_rest_figures, nm_rest_great, nm_rest_kind, nm_rest_left, nm_rest_looks, nm_rest_numbers, nm_rest_rows, nm_rest_seen, nm_rest_stand, nm_rest_wide, nm_rest_works, nm_row_done, nm_row_kind, nm_row_looks, nm_row_rows, nm_row_seen, nm_row_works, nm_rows_begin, nm_rows_begin_rows, nm_rows_deeds, nm_rows_done, nm_rows_entries, nm_rows_go, nm_rows_kind, nm_rows_looked, nm_rows_looks, nm_rows_put, nm_rows_rest, nm_rows_row, nm_rows_seen, nm_rows_work, nm_rows_works, nm_rows_wrong, nm_say_kind, nm_say_looks, nm_say_sight, nm_say_table, nm_seen_begin, nm_seen_begin_rows, nm_seen_deeds, nm_seen_done, nm_seen_entries, nm_seen_go, nm_seen_kind, nm_seen_looked, nm_seen_looks, nm_seen_put, nm_seen_rest, nm_seen_row, nm_seen_rows, nm_seen_work, nm_seen_works, nm_seen_wrong, nm_sight_ask_cell, nm_sight_divided, nm_sight_entered, nm_sight_kind, nm_sight_looked, nm_sight_looks, nm_sight_put_all, nm_sight_say, nm_sight_table, nm_sight_told, nm_sight_turned, nm_stand_begin, nm_stand_figures, nm_stand_great, nm_stand_kind, nm_stand_left, nm_stand_looks, nm_stand_numbers, nm_stand_rest, nm_stand_tried, nm_stand_wide, nm_table_ask_cell, nm_table_divided, nm_table_entered, nm_table_kind, nm_table_looked, nm_table_looks, nm_table_put_all, nm_table_say, nm_table_sight, nm_table_told, nm_table_turned, nm_told_ahead, nm_told_ended, nm_told_figures, nm_told_kind, nm_told_last, nm_told_looks, nm_told_sight, nm_told_table, nm_top_look, nm_tried_figures, nm_tried_great, nm_tried_kind, nm_tried_left, nm_tried_looks, nm_tried_numbers, nm_tried_stand, nm_tried_wide, nm_turned_kind, nm_turned_looks, nm_turned_sight, nm_turned_table, nm_under_base, nm_under_below, nm_under_held, nm_under_put, nm_under_upper, nm_upper_base, nm_upper_below, nm_upper_held, nm_upper_put, nm_upper_under, nm_wide_begin, nm_wide_figures, nm_wide_great, nm_wide_kind, nm_wide_left, nm_wide_looks, nm_wide_numbers, nm_wide_rest, nm_wide_stand, nm_wide_tried, nm_work_done, nm_work_kind, nm_work_looks, nm_work_rows, nm_work_seen, nm_work_works, nm_works_begin, nm_works_begin_rows, nm_works_deeds, nm_works_done, nm_works_entries, nm_works_go, nm_works_kind, nm_works_looked, nm_works_looks, nm_works_put, nm_works_rest, nm_works_row, nm_works_rows, nm_works_seen, nm_works_work, nm_works_wrong, nm_wrong_done, nm_wrong_kind, nm_wrong_looks, nm_wrong_rows, nm_wrong_seen, nm_wrong_works, sz1, sz2, sz3, sz4, sz5, sz6, sz7, sz8, sz9, sz10, sz11, true_and, ↓run_putP, ↓run_appP, ↓ev_plR, ↓ev_plIx, ↓ev_fz, ↓ev_rep, ↓run_fo, ↓run_wh, ↓ev_ok, ↓ev_opt, ↓ev_var, ↓ev_C, ↓ev_V, ↓ev_slot, ↓ev_op, ↓ev_un, ↓ev_B, ↓ev_not, ↓ev_notV, ↓ev_nil, ↓ev_cons, ↓ev_nilB, ↓ev_consB, ↓ev_tup, ↓ev_lst, ↓ev_B1, ↓ev_sl, ↓ev_P0, ↓ev_P1, ↓ev_Rg1, ↓ev_Rg2, ↓ev_LstRg, ↓ev_It, ↓ev_R1, ↓ev_R2, ↓xv_and, ↓xv_or, ↓xv_andV, ↓xv_orV, ↓xv_if, ↓xv_chain, ↓xv_call, ↓xv_call1, ↓xv_callT, hdC, br_t, br_f, so_some, so_none, so_mapN, so_mapC, lks_eq, rg_z, rg_s, lk0, lkS, st0, stS, entry0, entryS, rep0, repS, res_val, res_slot, so_add, so_sub, so_addN, so_subN, so_mul, so_div, so_mod, so_pow, so_shl, so_shr, so_and, so_or, so_xor, so_lt, so_le, so_gt, so_ge, so_eqI, so_neI, so_neg, so_isN, so_notN, non_n, non_i, non_t, non_l, non_b, non_s, so_ixL, so_ixT, at0, at1, at2, at3, ix0, ix1, ix2, ixN30, ixN31, ixN32, so_tru, so_iof, so_lof, so_itL, so_itT, so_r1, so_r2, so_abs, so_max, so_min, so_intB, so_intI, ii_i, ib_i, ib_b, ii_b, it_t, it_l, il_l, il_t, so_cat, so_inL, so_inT, so_ninL, so_ninT, so_maxI, so_maxT, so_rev, so_bits, so_en, wpD0, wpDC, bk0, bkC, oat0, oatS, so_catD, so_isBl, so_notBl, so_listOfL, so_listOfT, so_listL, so_listT, so_tupL, so_tupT, mx0, mxC, fz0, fzC, flO, flN, noL_i, noL_n, noL_b, noL_s, noL_t, noLs_n, noLs_c, Bool.and_true, Bool.and_self, getP0, setP0, so_ixP0, so_getP1, so_slL, so_lenL, so_lenT, so_gN, Int.cast_ofNat_Int, so_gT, so_gL, ↓ev_fzS, ↓ev_idx, ↓run_forZS, ↓ev_plIxT, scD_b, scD_i, scD_n, fzS0, fzSC, scOO, scON, notNon_t, so_gC, so_gE, Int.toNat_natCast, Int.one_mul, modC_eq, shrC_eq, powC_eq, fits0, fits1, fits2, fits3, fits4, fits5, fits6, fits7, fits8, fits9, fits10, fits11, fits12, fits13, fits14, fits15, fits16, rngC_eq, List.length_cons, List.length_nil, Nat.reduceAdd, Nat.zero_add, List.set_cons_zero, List.set_cons_succ, true_and, and_true, decide_true, decide_false, Bool.not_true, Bool.not_false, Bool.true_xor, Bool.false_xor, Int.reduceLT, Int.reduceSub, Int.reduceAdd, Int.reduceMul, Int.reduceNeg, Int.reduceDiv, Int.reduceMod, Int.reduceEq, Int.reduceLE, Int.reduceToNat, Int.reducePow, nab10, nab2, eq_self])
local macro_rules | `(tactic| walk_at "e") => `(tactic| (simp (config := { dsimp := false }) only [entryS, entry0, repS, rep0]; walk_at "z"))
structure Dk (n : Nat) (d : D) : Prop where
  is : ∃ a b c : Int, d = .list [.int a, .int b, .int c] ∧ 0 ≤ b ∧ b < 2147483579 ∧ 0 ≤ c ∧ c ≤ n
theorem pick_cl {n : Nat} {e : D} {m : Int} {Q : D → List D → Prop} (h : Dk n e) (hn : n ≤ 100000000000) (h1 : divC 0 m = true) (q : ∀ v e', 0 ≤ v → v < m → Dk (n + 1) e' → Q (.int v) [e', .int m]) : Cl F_law_pick [e, .int m] Q := by
  obtain ⟨a, b, c, rfl, hb0, hb1, hc0, hc1⟩ := h.is
  have hm := divC_pos h1
  refine fn_cl rfl ?_
  unfold b_law_pick
  walk_at "e"
  refine br_d (fun h => ?_) fun h => ?_
  · walk_at "z"
    exact ⟨hm, divC_any h1, q _ _ (Int.emod_nonneg _ (by omega)) (Int.emod_lt_of_pos _ hm) ⟨_, _, _, rfl, hb0, hb1, hc0, by omega⟩⟩
  · walk_at "z"
    have p1 : 0 ≤ (b + 15485867 * (c + 1)) ^ 5 % 2147483647 := Int.emod_nonneg _ (by omega)
    have p2 : (b + 15485867 * (c + 1)) ^ 5 % 2147483647 < 2147483647 := Int.emod_lt_of_pos _ (by omega)
    generalize (b + 15485867 * (c + 1)) ^ 5 % 2147483647 = u at *
    have p3 : 0 ≤ (u + 7919 * (c + 1)) ^ 3 % 2147483629 / 32 := Int.ediv_nonneg (Int.emod_nonneg _ (by omega)) (by omega)
    have p4 : (u + 7919 * (c + 1)) ^ 3 % 2147483629 / 32 < 2147483629 := by
      have := Int.emod_lt_of_pos ((u + 7919 * (c + 1)) ^ 3) (by omega : (0 : Int) < 2147483629)
      omega
    refine ⟨mulC_of (m := 24) (n := 64) (by omega) (by omega), by omega, mulC_of (m := 24) (n := 64) (by omega) (by omega), by omega, divL, ?_⟩
    generalize (u + 7919 * (c + 1)) ^ 3 % 2147483629 / 32 = v at *
    refine br_d (fun h => ?_) fun h => ?_
    · walk_at "z"
      exact ⟨mulC_of (m := 64) (n := 64) (by omega) (by omega), hm, q _ _ (Int.emod_nonneg _ (by omega)) (Int.emod_lt_of_pos _ hm) ⟨_, _, _, rfl, hb0, hb1, by omega, by omega⟩⟩
    · walk_at "z"
      exact ⟨hm, q _ _ (Int.emod_nonneg _ (by omega)) (Int.emod_lt_of_pos _ hm) ⟨_, _, _, rfl, hb0, hb1, by omega, by omega⟩⟩
theorem Dk.mono {n m : Nat} {e : D} (h : Dk n e) (hm : n ≤ m) : Dk m e := by
  obtain ⟨a, b, c, rfl, h1, h2, h3, h4⟩ := h.is
  exact ⟨a, b, c, rfl, h1, h2, h3, by omega⟩
theorem deck_cl {n : Nat} {cell t : Int} {Q : D → List D → Prop} (h0 : 0 ≤ t) (h1 : t ≤ n) (q : ∀ e, Dk n e → Q e [.int cell, .int t]) : Cl F_law_deck [.int cell, .int t] Q := by
  refine fn_cl rfl ?_
  unfold b_law_deck
  walk_at "e"
  have p1 : 0 ≤ cell % 2147483579 := Int.emod_nonneg _ (by omega)
  have p2 : cell % 2147483579 < 2147483579 := Int.emod_lt_of_pos _ (by omega)
  refine br_d (fun h => ?_) fun h => ?_
  · walk_at "z"
    exact q _ ⟨_, _, _, rfl, p1, p2, h0, h1⟩
  · walk_at "z"
    exact q _ ⟨_, _, _, rfl, p1, p2, h0, h1⟩
set_option Elab.async false
set_option linter.all false
set_option maxRecDepth 100000
set_option maxHeartbeats 1000000
theorem great_cl {n : Nat} {e : D} {f : Int} {Q : D → List D → Prop} (h : Dk n e) (hn : n ≤ 10000000000) (f0 : 0 ≤ f) (f1 : f ≤ 200) (q : ∀ v e', 0 ≤ v → v < 2 ^ 200 → Dk (n + 6) e' → Q (.int v) [e', .int f]) : Cl F_law_great [e, .int f] Q := by
  refine fn_cl rfl ?_
  unfold b_law_great
  walk_at "e"
  refine pick_cl h (by omega) (divC_of (n := 8) (by omega) (by omega)) fun c e1 c0 c1 h1 => ?_
  walk_at "z"
  refine ⟨by omega, for_r0 (fun i s => ∃ z t, s = [some e1, some (.int f), some (.int z), t, none] ∧ 0 < z ∧ z < 2 ^ (4 * i + 1)) ⟨1, none, rfl, by omega, by decide⟩ ?_ ?_⟩
  · rintro i _ hi ⟨z, t, rfl, z0, z1⟩
    walk_at "z"
    refine ⟨mulC_of (m := 4 * i + 1) (n := 4) (abs_pow2 (by omega) z1) (by decide) (by omega), _, _, rfl, by omega, ?_⟩
    rw [show 4 * (i + 1) + 1 = 4 * i + 1 + 4 by omega, Int.pow_add]
    have : (2 : Int) ^ 4 = 16 := by decide
    rw [this]
    omega
  · rintro _ ⟨z, t, rfl, z0, z1⟩
    walk_at "z"
    refine for_r0 (fun i s => ∃ e v t, s = [some e, some (.int f), some (.int z), t, some (.int v)] ∧ Dk (n + 1 + i) e ∧ 0 ≤ v ∧ v < 2 ^ (40 * i)) ⟨_, 0, _, rfl, h1, by omega, by decide⟩ ?_ ?_
    · rintro i _ hi ⟨e2, v, t, rfl, h2, v0, v1⟩
      walk_at "z"
      refine ⟨mulC_of (m := 40 * i) (n := 40) (abs_pow2 v0 v1) (by decide) (by omega), ?_⟩
      refine pick_cl h2 (by omega) divL fun x e3 x0 x1 h3 => ?_
      walk_at "z"
      refine ⟨_, _, _, rfl, h3, by omega, ?_⟩
      rw [show 40 * (i + 1) = 40 * i + 40 by omega, Int.pow_add, show (2 : Int) ^ 40 = 1099511627776 by decide]
      omega
    · rintro _ ⟨e2, v, t, rfl, h2, v0, v1⟩
      walk_at "z"
      have a0 := Int.emod_nonneg v (by omega : z ≠ 0)
      have a1 := Int.emod_lt_of_pos v z0
      have a2 : v % z ≤ v := by
        have h1 := Int.emod_add_mul_ediv v z
        have h2 := Int.mul_nonneg (Int.le_of_lt z0) (Int.ediv_nonneg v0 (Int.le_of_lt z0))
        omega
      refine ⟨z0, q _ _ a0 ?_ (h2.mono (by omega))⟩
      exact Int.lt_of_le_of_lt a2 v1
theorem ints_item {ns : List Int} {lo hi : Option Int} {i : Nat} {d : D} (h : (cutD (ns.map PyData.int) lo hi ++ [.int 0])[i]? = some d) : ∃ z, d = .int z := by
  have := List.mem_of_getElem? h
  rw [List.mem_append] at this
  rcases this with h | h
  · obtain ⟨j, hj⟩ := List.getElem?_of_mem h
    obtain ⟨z, _, rfl⟩ := List.mem_map.mp (cut_mem hj)
    exact ⟨z, rfl⟩
  · exact ⟨0, by simpa using h⟩
theorem cut_len {l : List D} {lo hi : Option Int} : (cutD l lo hi).length ≤ l.length := by
  unfold cutD
  rw [List.length_take, List.length_drop]
  omega
theorem first_at (ns : List Int) : ∃ z, atI (ns.map PyData.int ++ [.int 0]) 0 = some (.int z) := by
  cases ns with
  | nil => exact ⟨0, at0⟩
  | cons a l => exact ⟨a, at0⟩
set_option Elab.async false
set_option linter.all false
set_option maxRecDepth 100000
set_option maxHeartbeats 1000000
theorem lay_cut {w : Str} {lo hi : Option Int} (h : layS w = true) : layS (cutS w lo hi) = true := by
  have h : w.cps.all (· < 0x110000) = true := h
  show (cutS w lo hi).cps.all (· < 0x110000) = true
  rw [← Array.all_toList, List.all_eq_true] at h ⊢
  intro x hx
  exact h x (by
    unfold cutS at hx
    exact List.mem_of_mem_drop (List.mem_of_mem_take hx))
theorem fits_cut {w : Str} {lo hi : Option Int} (h : fits w.length = true) : fits (cutS w lo hi).length = true := by
  have := cutS_length w lo hi
  unfold fits at h ⊢
  exact decide_eq_true (Nat.le_trans this (of_decide_eq_true h))
theorem okE_of {a b : Str} (h : layS a = true) (h2 : layS b = true := by decide +kernel) : okE a b = true := by unfold okE; rw [h, h2]; rfl
section
variable {w : Str} {Q : D → List D → Prop}
theorem lay_dgs (h : layS w = true) : layS (dgs w) = true := by
  unfold dgs; split
  · exact lay_cut h
  · exact h
theorem fits_dgs (h : fits w.length = true) : fits (dgs w).length = true := by
  unfold dgs; split
  · exact fits_cut h
  · exact h
def dgF : D → Option D
  | .str x => match x.cps.toList with
    | [c] => if isDg c then none else some (.str x)
    | _ => none
  | _ => none
theorem dgF_c {c : Nat} : dgF (.str ⟨#[c]⟩) = if isDg c then none else some (.str ⟨#[c]⟩) := rfl
theorem dgL_len {x : Str} (h : fits x.length = true) : fits ((x.cps.toList.map fun c => (PyData.str ⟨#[c]⟩ : D)).filterMap dgF).length = true := by
  have h1 := List.length_filterMap_le dgF (x.cps.toList.map fun c => (PyData.str ⟨#[c]⟩ : D))
  rw [List.length_map, Array.length_toList] at h1
  exact decide_eq_true (Nat.le_trans h1 (of_decide_eq_true h))
theorem dgL_shp {x : Str} (h : layS x = true) : shp 1 (.list ((x.cps.toList.map fun c => (PyData.str ⟨#[c]⟩ : D)).filterMap dgF)) = true := by
  have h : x.cps.all (· < 0x110000) = true := h
  rw [← Array.all_toList, List.all_eq_true] at h
  show List.all _ (shp 0) = true
  rw [List.all_eq_true]
  intro d hd
  obtain ⟨e, he, hf⟩ := List.mem_filterMap.mp hd
  obtain ⟨c, hc, rfl⟩ := List.mem_map.mp he
  rw [dgF_c] at hf
  split at hf
  · cases hf
  · cases hf
    show PyData.canLay0 (.str ⟨#[c]⟩) = true
    show (#[c] : Array Nat).all (· < 0x110000) = true
    have := h c hc
    simpa using this
theorem dgL_nil {x : Str} : ((x.cps.toList.map fun c => (PyData.str ⟨#[c]⟩ : D)).filterMap dgF).isEmpty = x.cps.toList.all isDg := by
  generalize x.cps.toList = l
  induction l with
  | nil => rfl
  | cons c l ih =>
    rw [List.map_cons, List.filterMap_cons, dgF_c, List.all_cons]
    by_cases hc : isDg c = true
    · rw [if_pos hc, hc]; exact ih
    · rw [if_neg hc, (Bool.not_eq_true _).mp hc]; rfl
theorem dgs_cons (h : 1 ≤ (dgs w).length) : ∃ c r, (dgs w).cps.toList = c :: r := by
  have hl : (dgs w).cps.toList.length = (dgs w).length := Array.length_toList
  cases e : (dgs w).cps.toList with
  | nil => rw [e] at hl; simp at hl; omega
  | cons c r => exact ⟨c, r, rfl⟩
theorem lay_c {x : Str} {c : Nat} {r : List Nat} (h : layS x = true) (e : x.cps.toList = c :: r) : layS ⟨#[c]⟩ = true := by
  have h : x.cps.all (· < 0x110000) = true := h
  rw [← Array.all_toList, List.all_eq_true] at h
  have := h c (by rw [e]; exact List.mem_cons_self)
  show (#[c] : Array Nat).all (· < 0x110000) = true
  simpa using this
theorem one_c {c : Nat} : decide ((⟨#[c]⟩ : Str) = "0") = decide (c = 48) := by
  refine decide_eq_decide.mpr ⟨fun h => ?_, fun h => ?_⟩
  · have := congrArg (fun z : Str => z.cps.toList) h
    have : [c] = [48] := this
    simpa using this
  · subst h; rfl
theorem num_c {c : Nat} {r : List Nat} {n : Int} (e : (dgs w).cps.toList = c :: r) (ok : numOk w = true) (hn : PySem.intText? w = some n) : numD w = if decide (c = 48) && !decide (w = "0") then .none else .int n := by
  unfold numD
  rw [ok, e, hn]
  show (if (true && !(decide (some c = some 48) && !decide (w = "0"))) = true then _ else _) = _
  have : decide (some c = some 48) = decide (c = 48) := decide_eq_decide.mpr (by simp)
  rw [this]
  cases (decide (c = 48) && !decide (w = "0")) <;> rfl
theorem lnum_cl (hl : layS w = true) (hf : fits w.length = true) (q : ∀ as, Q (numD w) as) : Cl F_law_number [.str w] Q := by
  have hl2 := lay_dgs hl
  have hf2 := fits_dgs hf
  have hd : decide (cutS w none (some 1) = "-") = true → cutS w (some 1) none = dgs w := fun h => by unfold dgs; rw [if_pos (of_decide_eq_true h)]
  have hd2 : decide (cutS w none (some 1) = "-") = false → w = dgs w := fun h => by unfold dgs; rw [if_neg (of_decide_eq_false h)]
  refine fn_cl rfl ?_
  unfold b_law_number
  walk_at "e"
  refine ⟨hf, okE_of (lay_cut hl), ?_⟩
  refine br_ev (.str (dgs w)) (fun h => ?_) (fun h => ?_) ?_
  · walk_at "z"
    refine ⟨hf, ?_⟩
    rw [hd h]
  · walk_at "z"
    rw [← hd2 h]
  walk_at "z"
  refine ⟨hf2, br_d (fun h1 => ?_) fun h1 => ?_⟩
  · walk_at "z"
    refine br_nd (fun h2 => ?_) fun h2 => ?_
    · walk_at "z"
      rw [show (PyData.none : D) = numD w by unfold numD numOk; rw [decide_eq_false (p := (dgs w).length ≤ 60) (by omega)]; simp]
      exact q _
    · walk_at "z"
      refine lc_map dgF (fun d hd => ?_) ?_
      · obtain ⟨c, hc, rfl⟩ := List.mem_map.mp hd
        walk_at "z"
        rw [dgF_c]
        unfold isDg
        refine br_d (fun a1 => ?_) fun a1 => ?_
        · walk_at "z"
          refine br_nd (fun a2 => ?_) fun a2 => ?_
          · walk_at "z"
            rw [decide_eq_false a2, Bool.and_false]
            first | rfl | exact ⟨rfl, rfl⟩
          · rw [decide_eq_true a1, decide_eq_true a2]
            first | rfl | exact ⟨rfl, rfl⟩
        · walk_at "z"
          rw [decide_eq_false a1, Bool.false_and]
          first | rfl | exact ⟨rfl, rfl⟩
      · refine ⟨dgL_len hf2, ?_⟩
        walk_at "z"
        refine so_neNil (dgL_shp hl2) ?_
        rw [dgL_nil]
        cases ha : (dgs w).cps.toList.all isDg with
        | false =>
          walk_at "z"
          rw [show (PyData.none : D) = numD w by unfold numD numOk; rw [ha]; simp]
          exact q _
        | true =>
          walk_at "z"
          have ok : numOk w = true := by
            unfold numOk
            rw [ha, decide_eq_true (p := 1 ≤ (dgs w).length) (by omega), decide_eq_true (p := (dgs w).length ≤ 60) (by omega)]
            rfl
          obtain ⟨n, hn, hn2⟩ := num_int ok
          obtain ⟨c, r, hcr⟩ := dgs_cons (w := w) (by omega)
          have e0 : atI (dgs w).cps.toList 0 = some c := by rw [hcr]; exact at0
          rw [e0, so_some]
          refine ⟨hf2, ?_⟩
          walk_at "z"
          refine ⟨okE_of (lay_c hl2 hcr), ?_⟩
          rw [num_c hcr ok hn] at q
          rw [one_c]
          by_cases h48 : c = 48
          · rw [decide_eq_true h48] at q ⊢
            walk_at "z"
            refine ⟨okE_of hl, ?_⟩
            by_cases h0 : w = "0"
            · rw [decide_eq_true h0] at q ⊢
              walk_at "z"
              rw [hn, so_some]
              refine ⟨decide_eq_true hn2, ?_⟩
              walk_at "z"
              exact q _
            · rw [decide_eq_false h0] at q ⊢
              walk_at "z"
              exact q _
          · rw [decide_eq_false h48] at q ⊢
            walk_at "z"
            rw [hn, so_some]
            refine ⟨decide_eq_true hn2, ?_⟩
            walk_at "z"
            exact q _
  · walk_at "z"
    rw [show (PyData.none : D) = numD w by unfold numD numOk; rw [decide_eq_false (p := 1 ≤ (dgs w).length) (by omega)]; simp]
    exact q _
theorem num_cl (hl : layS w = true) (hf : fits w.length = true) (q : ∀ as, Q (numD w) as) : Cl F_number_of [.str w] Q := by
  have hl2 := lay_dgs hl
  have hf2 := fits_dgs hf
  have hd : decide (cutS w none (some 1) = "-") = true → cutS w (some 1) none = dgs w := fun h => by unfold dgs; rw [if_pos (of_decide_eq_true h)]
  have hd2 : decide (cutS w none (some 1) = "-") = false → w = dgs w := fun h => by unfold dgs; rw [if_neg (of_decide_eq_false h)]
  refine fn_cl rfl ?_
  unfold b_number_of
  walk_at "e"
  refine ⟨hf, okE_of (lay_cut hl), ?_⟩
  refine br_cut (fun s' => s' = [some (.str w), some (.str (dgs w)), none]) (fun h => ?_) (fun h => ?_) ?_
  · walk_at "z"
    refine ⟨hf, ?_⟩
    rw [hd h]
  · walk_at "z"
    rw [← hd2 h]
  rintro _ rfl
  walk_at "z"
  refine ⟨hf2, br_d (fun h1 => ?_) fun h1 => ?_⟩
  · walk_at "z"
    refine br_nd (fun h2 => ?_) fun h2 => ?_
    · walk_at "z"
      rw [show (PyData.none : D) = numD w by unfold numD numOk; rw [decide_eq_false (p := (dgs w).length ≤ 60) (by omega)]; simp]
      exact q _
    · walk_at "z"
      refine lc_map dgF (fun d hd => ?_) ?_
      · obtain ⟨c, hc, rfl⟩ := List.mem_map.mp hd
        walk_at "z"
        rw [dgF_c]
        cases hg : isDg c with
        | false =>
          walk_at "z"
          first | rfl | exact ⟨rfl, rfl⟩
        | true =>
          walk_at "z"
          first | rfl | exact ⟨rfl, rfl⟩
      · refine ⟨dgL_len hf2, ?_⟩
        walk_at "z"
        refine so_neNil (dgL_shp hl2) ?_
        rw [dgL_nil]
        cases ha : (dgs w).cps.toList.all isDg with
        | false =>
          walk_at "z"
          rw [show (PyData.none : D) = numD w by unfold numD numOk; rw [ha]; simp]
          exact q _
        | true =>
          walk_at "z"
          have ok : numOk w = true := by
            unfold numOk
            rw [ha, decide_eq_true (p := 1 ≤ (dgs w).length) (by omega), decide_eq_true (p := (dgs w).length ≤ 60) (by omega)]
            rfl
          obtain ⟨n, hn, hn2⟩ := num_int ok
          obtain ⟨c, r, hcr⟩ := dgs_cons (w := w) (by omega)
          have e0 : atI (dgs w).cps.toList 0 = some c := by rw [hcr]; exact at0
          rw [e0, so_some]
          refine ⟨hf2, ?_⟩
          walk_at "z"
          refine ⟨okE_of (lay_c hl2 hcr), ?_⟩
          rw [num_c hcr ok hn] at q
          rw [one_c]
          by_cases h48 : c = 48
          · rw [decide_eq_true h48] at q ⊢
            walk_at "z"
            refine ⟨okE_of hl, ?_⟩
            by_cases h0 : w = "0"
            · rw [decide_eq_true h0] at q ⊢
              walk_at "z"
              rw [hn, so_some]
              refine ⟨decide_eq_true hn2, ?_⟩
              walk_at "z"
              exact q _
            · rw [decide_eq_false h0] at q ⊢
              walk_at "z"
              exact q _
          · rw [decide_eq_false h48] at q ⊢
            walk_at "z"
            rw [hn, so_some]
            refine ⟨decide_eq_true hn2, ?_⟩
            walk_at "z"
            exact q _
  · walk_at "z"
    rw [show (PyData.none : D) = numD w by unfold numD numOk; rw [decide_eq_false (p := 1 ≤ (dgs w).length) (by omega)]; simp]
    exact q _
end
set_option Elab.async false
set_option linter.all false
set_option maxRecDepth 100000
set_option maxHeartbeats 1000000
section
open TL
theorem spW {s : Nat} : ∀ (l acc : List Nat), ((spl [s] 0 acc l).map fun p => p.length + 1).sum = acc.length + l.length + 1
  | [], acc => by rw [spl_nil]; simp
  | c :: r, acc => by
    cases h : pre [s] (c :: r) with
    | true =>
      rw [spl_hit h, List.map_cons, List.sum_cons]
      show _ + ((spl [s] 0 [] r).map fun p => p.length + 1).sum = _
      rw [spW r []]
      simp; omega
    | false =>
      rw [spl_miss h, spW r (acc ++ [c])]
      simp; omega
theorem spC {s c : Nat} {p : List Nat} : ∀ (l acc : List Nat), p ∈ spl [s] 0 acc l → c ∈ p → c ∈ acc ∨ c ∈ l
  | [], acc => by
    intro hp hc
    rw [spl_nil, List.mem_singleton] at hp
    subst hp
    exact .inl hc
  | d :: r, acc => by
    intro hp hc
    cases h : pre [s] (d :: r) with
    | true =>
      rw [spl_hit h] at hp
      rcases List.mem_cons.mp hp with rfl | hp
      · exact .inl hc
      · have hp : p ∈ spl [s] 0 [] r := hp
        rcases spC r [] hp hc with h | h
        · cases h
        · exact .inr (List.mem_cons_of_mem _ h)
    | false =>
      rw [spl_miss h] at hp
      rcases spC r (acc ++ [d]) hp hc with h | h
      · rcases List.mem_append.mp h with h | h
        · exact .inl h
        · rw [List.mem_singleton] at h
          subst h
          exact .inr List.mem_cons_self
      · exact .inr (List.mem_cons_of_mem _ h)
theorem spN {s : Nat} : ∀ (l acc : List Nat), spl [s] 0 acc l ≠ []
  | [], acc => by rw [spl_nil]; simp
  | d :: r, acc => by
    cases h : pre [s] (d :: r) with
    | true => rw [spl_hit h]; simp
    | false => rw [spl_miss h]; exact spN r _
structure Sep (y : Str) : Prop where
  one : ∃ s, tl y = [s] ∧ s < 256
theorem Sep.all {y : Str} (h : Sep y) : y.cps.all (· < 256) = true := by
  obtain ⟨s, e, hs⟩ := h.one
  rw [← Array.all_toList]
  have e : y.cps.toList = [s] := e
  rw [e]
  simpa using hs
theorem Sep.len {y : Str} (h : Sep y) : y.length = 1 := by
  obtain ⟨s, e, hs⟩ := h.one
  have e : y.cps.toList = [s] := e
  have hl : y.cps.toList.length = y.length := Array.length_toList
  rw [e] at hl
  exact hl.symm
theorem sep_b : Sep " " := ⟨32, rfl, by decide⟩
theorem sep_n : Sep "\n" := ⟨10, rfl, by decide⟩
variable {x y : Str}
theorem split_eq (h : Sep y) : ∃ s, (PySem.Txt.split x y).map tl = spl [s] 0 [] (tl x) := by
  obtain ⟨s, e, hs⟩ := h.one
  exact ⟨s, by rw [split_spl _ y (by rw [e]; simp) (kind_ok h.all), e]⟩
def wS (ys : List Str) : Nat := (ys.map fun p => p.length + 1).sum
theorem split_W (h : Sep y) : wS (PySem.Txt.split x y) = x.length + 1 := by
  obtain ⟨s, e⟩ := split_eq (x := x) h
  have := spW (s := s) (tl x) []
  rw [← e, List.map_map] at this
  have hl : ∀ z : Str, (tl z).length = z.length := fun z => Array.length_toList
  unfold wS
  rw [hl] at this
  simp only [List.length_nil, Nat.zero_add] at this
  rw [← this]
  congr 1
theorem split_ne (h : Sep y) : PySem.Txt.split x y ≠ [] := fun z => by
  obtain ⟨s, e⟩ := split_eq (x := x) h
  rw [z] at e
  exact spN _ _ e.symm
theorem lay_iff {z : Str} : layS z = true ↔ ∀ c ∈ tl z, c < 0x110000 := by
  show z.cps.all (· < 0x110000) = true ↔ _
  rw [← Array.all_toList, List.all_eq_true]
  exact ⟨fun h c hc => of_decide_eq_true (h c hc), fun h c hc => decide_eq_true (h c hc)⟩
theorem split_lay (h : Sep y) (hx : layS x = true) {p : Str} (hp : p ∈ PySem.Txt.split x y) : layS p = true := by
  obtain ⟨s, e⟩ := split_eq (x := x) h
  rw [lay_iff] at hx ⊢
  intro c hc
  rcases spC (s := s) (tl x) [] (p := tl p) (by rw [← e]; exact List.mem_map.mpr ⟨p, hp, rfl⟩) hc with h | h
  · cases h
  · exact hx c h
theorem wS_mem {ys : List Str} {p : Str} (h : p ∈ ys) : p.length + 1 ≤ wS ys := by
  induction ys with
  | nil => cases h
  | cons a r ih =>
    unfold wS at ih ⊢
    rw [List.map_cons, List.sum_cons]
    rcases List.mem_cons.mp h with rfl | h
    · omega
    · have := ih h; omega
theorem wS_len (ys : List Str) : ys.length ≤ wS ys := by
  induction ys with
  | nil => exact Nat.zero_le _
  | cons a r ih =>
    unfold wS at ih ⊢
    rw [List.map_cons, List.sum_cons, List.length_cons]
    omega
theorem wS_app (a c : List Str) : wS (a ++ c) = wS a + wS c := by unfold wS; rw [List.map_append, List.sum_append]
theorem wS_join (h : Sep y) (ys : List Str) : (ys.map (·.length)).sum + ys.length * y.length = wS ys := by
  rw [h.len]
  induction ys with
  | nil => rfl
  | cons a r ih =>
    unfold wS at ih ⊢
    rw [List.map_cons, List.sum_cons, List.map_cons, List.sum_cons, List.length_cons, ← ih]
    omega
theorem joinL_len {s : Nat} : ∀ (ps : List (List Nat)), (joinL [s] ps).length ≤ (ps.map fun p => p.length + 1).sum
  | [] => Nat.zero_le _
  | [p] => by show p.length ≤ _; simp
  | p :: q :: r => by
    have := joinL_len (s := s) (q :: r)
    show (p ++ ([s] ++ joinL [s] (q :: r))).length ≤ _
    rw [List.map_cons, List.sum_cons, List.length_append, List.length_append, List.length_singleton]
    omega
theorem joinL_mem {s c : Nat} : ∀ (ps : List (List Nat)), c ∈ joinL [s] ps → c = s ∨ ∃ p ∈ ps, c ∈ p
  | [], h => by cases h
  | [p], h => .inr ⟨p, List.mem_cons_self, h⟩
  | p :: q :: r, h => by
    have h : c ∈ p ++ ([s] ++ joinL [s] (q :: r)) := h
    rw [List.mem_append, List.mem_append, List.mem_singleton] at h
    rcases h with h | h | h
    · exact .inr ⟨p, List.mem_cons_self, h⟩
    · exact .inl h
    · rcases joinL_mem (q :: r) h with h | ⟨p', hp, hc⟩
      · exact .inl h
      · exact .inr ⟨p', List.mem_cons_of_mem _ hp, hc⟩
theorem join_tl (h : Sep y) (ys : List Str) : ∃ s, s < 256 ∧ tl (PySem.Txt.join y ys) = joinL [s] (ys.map tl) := by
  obtain ⟨s, e, hs⟩ := h.one
  exact ⟨s, hs, by rw [join_eq, tl_join, e]⟩
theorem join_len (h : Sep y) (ys : List Str) : (PySem.Txt.join y ys).length ≤ wS ys := by
  obtain ⟨s, hs, e⟩ := join_tl h ys
  have hl : ∀ z : Str, (tl z).length = z.length := fun z => Array.length_toList
  rw [← hl, e]
  refine Nat.le_trans (joinL_len _) ?_
  rw [List.map_map]
  exact Nat.le_refl _
theorem join_lay (h : Sep y) {ys : List Str} (hy : ∀ p ∈ ys, layS p = true) : layS (PySem.Txt.join y ys) = true := by
  obtain ⟨s, hs, e⟩ := join_tl h ys
  rw [lay_iff, e]
  intro c hc
  rcases joinL_mem _ hc with rfl | ⟨p, hp, hc⟩
  · omega
  · obtain ⟨z, hz, rfl⟩ := List.mem_map.mp hp
    exact lay_iff.mp (hy z hz) c hc
theorem split_le (h : Sep y) {p : Str} (hp : p ∈ PySem.Txt.split x y) : p.length ≤ x.length := by
  have := wS_mem hp
  rw [split_W h] at this
  omega
theorem split_n (h : Sep y) : (PySem.Txt.split x y).length ≤ x.length + 1 := by
  have := wS_len (PySem.Txt.split x y)
  rw [split_W h] at this
  exact this
end
set_option Elab.async false
set_option linter.all false
set_option maxRecDepth 100000
set_option maxHeartbeats 1000000
theorem so_atP {l : List D} {i : Int} {Q : D → Prop} (P : D → Prop) (h0 : 0 ≤ i) (h1 : i < l.length) (hP : ∀ x ∈ l, P x) (q : ∀ x, P x → Q x) : So (atI l i) Q :=
  so_at h0 h1 fun v hv => q v (hP v (List.mem_of_getElem? hv))
structure Knd (b m : Int) : Prop where
  base : b = 2 ∨ b = 4 ∨ b = 8 ∨ b = 16
  lo : b ≤ 2 * m
  hi : m < b
theorem numD_k (w : Str) : numD w = .none ∨ ∃ n, numD w = .int n := by
  unfold numD
  split
  · exact .inr ⟨_, rfl⟩
  · exact .inl rfl
theorem numD_non : numD "none" = .none := by
  unfold numD
  rw [show numOk "none" = false from by decide +kernel]
  rfl
theorem mapM_no {α β : Type} {f : α → Option β} {l : List α} {a : α} (h : a ∈ l) (hf : f a = none) : l.mapM f = none := by
  induction l with
  | nil => cases h
  | cons b r ih =>
    rw [List.mapM_cons]
    rcases List.mem_cons.mp h with rfl | h
    · rw [hf]; rfl
    · rw [ih h]
      cases f b <;> rfl
theorem fits_of {n : Nat} (h : n ≤ 10000000) : fits n = true := by unfold fits; exact decide_eq_true (Nat.le_trans h (by decide))
theorem spl_ok {a y : Str} (h : Sep y) (ha : a.length ≤ 10000000) : (!(y.length == 0) && decide (a.length + 2 ≤ sizeLine)) = true := by
  rw [h.len, decide_eq_true (Nat.le_trans (Nat.add_le_add_right ha 2) (by decide))]; rfl
abbrev frmP : List (Str × Int) := [("begin", 3), ("rows", 3), ("step", 1), ("put", 3)]
abbrev frmQ : List (Str × Int) := [("begin", 4), ("rows", 4), ("step", 2), ("put", 4)]
abbrev frmL : List (D × D) := [(.str "begin", .int 4), (.str "rows", .int 4), (.str "step", .int 2), (.str "put", .int 4)]
theorem dget_s {k w : Str} {d : D} {r : List (D × D)} : dget (.str w) ((.str k, d) :: r) = if k = w then some d else dget (.str w) r := by
  show (if keq (.str k) (.str w) = true then some d else dget (.str w) r) = _
  have := keq_key (.inr k) (.inr w)
  have e : keq (PyData.str k) (.str w) = decide ((Sum.inr k : Key) = Sum.inr w) := this
  rw [e]
  by_cases h : k = w
  · subst h
    rw [decide_eq_true rfl, if_pos rfl, if_pos rfl]
  · rw [decide_eq_false (fun z => h (Sum.inr.inj z)), if_neg h]; rfl
theorem frm_dget (w : Str) : dget (.str w) frmL = (kls frmQ w).map .int := by
  unfold frmL
  rw [dget_s, dget_s, dget_s, dget_s]
  unfold kls kls kls kls kls
  by_cases h1 : ("begin" : Str) = w
  · rw [if_pos h1, if_pos h1]; rfl
  by_cases h2 : ("rows" : Str) = w
  · rw [if_neg h1, if_neg h1, if_pos h2, if_pos h2]; rfl
  by_cases h3 : ("step" : Str) = w
  · rw [if_neg h1, if_neg h1, if_neg h2, if_neg h2, if_pos h3, if_pos h3]; rfl
  by_cases h4 : ("put" : Str) = w
  · rw [if_neg h1, if_neg h1, if_neg h2, if_neg h2, if_neg h3, if_neg h3, if_pos h4, if_pos h4]; rfl
  · rw [if_neg h1, if_neg h1, if_neg h2, if_neg h2, if_neg h3, if_neg h3, if_neg h4, if_neg h4]; rfl
theorem frm_k (w : Str) : (w = "begin" ∧ kls frmP w = some 3 ∧ kls frmQ w = some 4) ∨ (w = "rows" ∧ kls frmP w = some 3 ∧ kls frmQ w = some 4) ∨ (w = "step" ∧ kls frmP w = some 1 ∧ kls frmQ w = some 2) ∨ (w = "put" ∧ kls frmP w = some 3 ∧ kls frmQ w = some 4) ∨ (w ≠ "begin" ∧ w ≠ "rows" ∧ w ≠ "step" ∧ w ≠ "put" ∧ kls frmP w = none ∧ kls frmQ w = none) := by
  by_cases h1 : w = "begin"
  · subst h1; exact .inl ⟨rfl, by decide +kernel, by decide +kernel⟩
  by_cases h2 : w = "rows"
  · subst h2; exact .inr (.inl ⟨rfl, by decide +kernel, by decide +kernel⟩)
  by_cases h3 : w = "step"
  · subst h3; exact .inr (.inr (.inl ⟨rfl, by decide +kernel, by decide +kernel⟩))
  by_cases h4 : w = "put"
  · subst h4; exact .inr (.inr (.inr (.inl ⟨rfl, by decide +kernel, by decide +kernel⟩)))
  · have e1 : ¬ ("begin" : Str) = w := fun z => h1 z.symm
    have e2 : ¬ ("rows" : Str) = w := fun z => h2 z.symm
    have e3 : ¬ ("step" : Str) = w := fun z => h3 z.symm
    have e4 : ¬ ("put" : Str) = w := fun z => h4 z.symm
    refine .inr (.inr (.inr (.inr ⟨h1, h2, h3, h4, ?_, ?_⟩)))
    · unfold frmP kls kls kls kls kls
      rw [if_neg e1, if_neg e2, if_neg e3, if_neg e4]
    · unfold frmQ kls kls kls kls kls
      rw [if_neg e1, if_neg e2, if_neg e3, if_neg e4]
def stepD (a : Str) : Option D := if nonB (numD a) then none else some (.tuple [.str "step", numD a])
def putD (a b c : Str) : Option D := if nonB (numD a) || (nonB (numD b) || (nonB (numD c) && !decide (c = "none"))) then none else some (.tuple [.str "put", numD a, numD b, numD c])
def divOk : D → D → Bool
  | .int j, .int n => decide (1 ≤ j) && (decide (0 ≤ n) && decide (n ≤ 250))
  | _, _ => false
def begD (k a b c : Str) : Option D := if nonB (numD a) || (nonB (numD b) || nonB (numD c)) then none else if divOk (numD b) (numD c) then some (.tuple [.str k, numD a, numD b, numD c]) else none
def deedL : List Str → Option D
  | [k, a] => if k = "step" then stepD a else none
  | [k, a, b, c] => if k = "put" then putD a b c else if k = "begin" ∨ k = "rows" then begD k a b c else none
  | _ => none
def deedO (x : Str) : Option D := deedL (PySem.Txt.split x " ")
theorem forms (w : Str) (r : List Str) : (∃ a, w = "step" ∧ r = [a]) ∨ (∃ a b c, w = "put" ∧ r = [a, b, c]) ∨ (∃ a b c, (w = "begin" ∨ w = "rows") ∧ r = [a, b, c]) ∨ ((kls frmP w).getD (-1) ≠ (r.length : Int) ∧ (kls frmQ w = none ∨ ∃ k, kls frmQ w = some k ∧ (r.length : Int) + 1 ≠ k) ∧ deedL (w :: r) = none) := by
  have l3 : r.length = 3 → ∃ a b c, r = [a, b, c] := fun h => by
    rcases r with _ | ⟨a, _ | ⟨b, _ | ⟨c, _ | ⟨d, r⟩⟩⟩⟩
    all_goals simp at h
    exact ⟨a, b, c, rfl⟩
  have l1 : r.length = 1 → ∃ a, r = [a] := fun h => by
    rcases r with _ | ⟨a, _ | ⟨b, r⟩⟩
    all_goals simp at h
    exact ⟨a, rfl⟩
  have no : (w = "step" → r.length ≠ 1) → (w = "put" ∨ w = "begin" ∨ w = "rows" → r.length ≠ 3) → deedL (w :: r) = none := fun h1 h2 => by
    rcases r with _ | ⟨a, _ | ⟨b, _ | ⟨c, _ | ⟨d, r⟩⟩⟩⟩
    · rfl
    · show (if w = "step" then stepD a else none) = none
      rw [if_neg fun z => h1 z rfl]
    · rfl
    · show (if w = "put" then putD a b c else if w = "begin" ∨ w = "rows" then begD w a b c else none) = none
      rw [if_neg fun z => h2 (.inl z) rfl, if_neg fun z => h2 (.inr z) rfl]
    · rfl
  rcases frm_k w with ⟨rfl, e1, e2⟩ | ⟨rfl, e1, e2⟩ | ⟨rfl, e1, e2⟩ | ⟨rfl, e1, e2⟩ | ⟨n1, n2, n3, n4, e1, e2⟩
  · by_cases h : r.length = 3
    · obtain ⟨a, b, c, rfl⟩ := l3 h
      exact .inr (.inr (.inl ⟨a, b, c, .inl rfl, rfl⟩))
    · exact .inr (.inr (.inr ⟨by rw [e1]; show (3 : Int) ≠ _; omega, .inr ⟨4, e2, by omega⟩, no (fun z => absurd z (by decide +kernel)) fun _ => h⟩))
  · by_cases h : r.length = 3
    · obtain ⟨a, b, c, rfl⟩ := l3 h
      exact .inr (.inr (.inl ⟨a, b, c, .inr rfl, rfl⟩))
    · exact .inr (.inr (.inr ⟨by rw [e1]; show (3 : Int) ≠ _; omega, .inr ⟨4, e2, by omega⟩, no (fun z => absurd z (by decide +kernel)) fun _ => h⟩))
  · by_cases h : r.length = 1
    · obtain ⟨a, rfl⟩ := l1 h
      exact .inl ⟨a, rfl, rfl⟩
    · exact .inr (.inr (.inr ⟨by rw [e1]; show (1 : Int) ≠ _; omega, .inr ⟨2, e2, by omega⟩, no (fun _ => h) fun z => absurd z (by decide +kernel)⟩))
  · by_cases h : r.length = 3
    · obtain ⟨a, b, c, rfl⟩ := l3 h
      exact .inr (.inl ⟨a, b, c, rfl, rfl⟩)
    · exact .inr (.inr (.inr ⟨by rw [e1]; show (3 : Int) ≠ _; omega, .inr ⟨4, e2, by omega⟩, no (fun z => absurd z (by decide +kernel)) fun _ => h⟩))
  · exact .inr (.inr (.inr ⟨by rw [e1]; show (-1 : Int) ≠ _; omega, .inl e2, no (fun z => absurd z n3) fun z => by rcases z with z | z | z <;> contradiction⟩))
def numF : D → Option D
  | .str w => some (numD w)
  | _ => none
theorem numF_map {ws : List Str} : (ws.map PyData.str).filterMap numF = ws.map numD := by
  induction ws with
  | nil => rfl
  | cons a r ih => rw [List.map_cons, List.filterMap_cons, ih]; rfl
theorem split_cons {x y : Str} (h : Sep y) : ∃ w r, PySem.Txt.split x y = w :: r := by
  cases e : PySem.Txt.split x y with
  | nil => exact absurd e (split_ne h)
  | cons w r => exact ⟨w, r, rfl⟩
theorem lay_step : layS "step" = true := by decide +kernel
theorem lay_put : layS "put" = true := by decide +kernel
theorem lay_none : layS "none" = true := by decide +kernel
theorem lay_beg {k : Str} (h : k = "begin" ∨ k = "rows") : layS k = true := by rcases h with rfl | rfl <;> decide +kernel
theorem so_addTT {l k : List D} {Q : D → Prop} : So (addD (.tuple l) (.tuple k)) Q = (fits (l.length + k.length) = true ∧ Q (.tuple (l ++ k))) := by
  unfold addD
  rw [so_if, so_some]
set_option Elab.async false
set_option linter.all false
set_option maxRecDepth 100000
set_option maxHeartbeats 1000000
def sgns : Str := " !\"#$&'()*+,-./0123456789:;<=>?@ABCDEFGHIJKLMNOPQRSTUVWXYZ[\\]^_`abcdefghijklmnopqrstuvwxyz{|}~\n"
theorem sgns_n : sgns.length = 95 := by decide +kernel
theorem sgns_lay : layS sgns = true := by decide +kernel
theorem lay_app {x y : Str} (hx : layS x = true) (hy : layS y = true) : layS (x ++ y) = true := by
  rw [lay_iff] at hx hy ⊢
  intro c hc
  rw [TL.tl_append, List.mem_append] at hc
  rcases hc with h | h
  · exact hx c h
  · exact hy c h
theorem len_app (x y : Str) : (x ++ y).length = x.length + y.length := by
  rw [TL.len_tl, TL.tl_append, List.length_append, ← TL.len_tl, ← TL.len_tl]
theorem cutA (z : Str) (k : Nat) : (cutS z none (some (k : Int))).length = min k z.length := by
  rw [TL.len_tl]
  unfold cutS
  rw [HT.sIx_none, HT.sIx_nat, List.drop_zero, Nat.sub_zero]
  show (z.cps.toList.take (min k z.length)).length = _
  rw [List.length_take, Array.length_toList]
  show min _ z.length = _
  omega
theorem cutB (z : Str) (k : Nat) : (cutS z (some (k : Int)) none).length = z.length - min k z.length := by
  rw [TL.len_tl]
  unfold cutS
  rw [HT.sIx_none, HT.sIx_nat]
  show ((z.cps.toList.drop (min k z.length)).take (z.length - min k z.length)).length = _
  rw [List.length_take, List.length_drop, Array.length_toList]
  show min _ (z.length - _) = _
  omega
theorem lay_at {x : Str} (h : layS x = true) {i : Nat} {c : Nat} (e : x.cps.toList[i]? = some c) : layS ⟨#[c]⟩ = true := by
  rw [lay_iff] at h ⊢
  intro d hd
  have hd : d ∈ [c] := hd
  rw [List.mem_singleton] at hd
  subst hd
  exact h d (List.mem_of_getElem? e)
section
variable {n : Nat} {e : D} {Q : D → List D → Prop} {x : Str}
theorem signs_cl (q : Q (.str sgns) []) : Cl F_law_signs [] Q := by
  refine fn_cl rfl ?_
  unfold b_law_signs
  walk_at "e"
  exact q
theorem chr_at {x : Str} {i : Int} {Q : Nat → Prop} (h0 : 0 ≤ i) (h1 : i < x.length) (q : ∀ c, layS x = true → layS ⟨#[c]⟩ = true → Q c) (hl : layS x = true) : So (atI x.cps.toList i) Q := by
  have hn : i.toNat < x.cps.toList.length := by rw [Array.length_toList]; show _ < x.length; omega
  obtain ⟨c, hc⟩ : ∃ c, x.cps.toList[i.toNat]? = some c := ⟨_, List.getElem?_eq_getElem hn⟩
  rw [at_nat h0 hc, so_some]
  exact q c hl (lay_at hl hc)
theorem sign_cl (h : Dk n e) (hn : n ≤ 100000000) (hl : layS x = true) (hx : x.length ≤ 1000000) (q : ∀ y e' as, layS y = true → y.length ≤ x.length + 1 → Dk (n + 6) e' → Q (.str y) (e' :: as)) : Cl F_law_sign_bent [e, .str x] Q := by
  refine fn_cl rfl ?_
  unfold b_law_sign_bent
  walk_at "e"
  refine signs_cl ?_
  walk_at "z"
  refine ⟨fits_of (by omega), ?_⟩
  walk_at "z"
  refine pick_cl h (by omega) (divC_of (n := 30) (by omega) (by omega)) fun at_ e1 p0 p1 h1 => ?_
  walk_at "z"
  refine pick_cl h1 (by omega) divL fun v e2 v0 v1 h2 => ?_
  walk_at "z"
  refine ⟨fits_of (by rw [sgns_n]; omega), chr_at v0 (by rw [sgns_n]; omega) (fun c _ hc => ?_) sgns_lay⟩
  walk_at "z"
  refine pick_cl h2 (by omega) divL fun u e3 u0 u1 h3 => ?_
  walk_at "z"
  refine br_d (fun z1 => ?_) fun z1 => ?_
  · walk_at "z"
    refine ⟨okE_of hl, br_nd (fun z2 => ?_) fun z2 => ?_⟩
    · have hpos : 0 < x.length := by
        rcases Nat.eq_zero_or_pos x.length with z | z
        · exact absurd (TL.ext_tl (by rw [show TL.tl x = [] from List.eq_nil_of_length_eq_zero (by rw [← TL.len_tl]; exact z)]; rfl)) z2
        · exact z
      walk_at "z"
      refine ⟨fits_of (by omega), ?_⟩
      walk_at "z"
      refine pick_cl h3 (by omega) (divC_of (n := 30) (by omega) (by omega)) fun r e4 r0 r1 h4 => ?_
      walk_at "z"
      refine ⟨fits_of (by omega), chr_at r0 r1 (fun c4 _ hc4 => ?_) hl⟩
      walk_at "z"
      refine ⟨fits_of (by omega), pick_cl h4 (by omega) divL fun k e5 k0 k1 h5 => ?_⟩
      walk_at "z"
      refine so_atP (fun d => ∃ s : Str, d = .str s ∧ layS s = true ∧ s.length ≤ 1) k0 (by exact k1) (fun d hd => ?_) fun d hd => ?_
      · simp only [List.mem_cons, List.not_mem_nil, or_false] at hd
        rcases hd with rfl | rfl | rfl
        · exact ⟨_, rfl, hc4, Nat.le_refl _⟩
        · exact ⟨_, rfl, hc4, Nat.le_refl _⟩
        · exact ⟨_, rfl, by decide +kernel, Nat.zero_le _⟩
      obtain ⟨s, rfl, s1, s2⟩ := hd
      walk_at "z"
      have at1 : at_ = ((at_.toNat : Nat) : Int) := by omega
      have la := cutA x at_.toNat
      rw [← at1] at la
      refine ⟨fits_of (by omega), ?_⟩
      walk_at "z"
      refine pick_cl h5 (by omega) divL fun j e6 j0 j1 h6 => ?_
      walk_at "z"
      have at2 : at_ + j = (((at_ + j).toNat : Nat) : Int) := by omega
      have lb := cutB x (at_ + j).toNat
      rw [← at2] at lb
      have hlen := len_app (cutS x none (some at_)) s
      have hlen2 := len_app (cutS x none (some at_) ++ s) (cutS x (some (at_ + j)) none)
      refine ⟨fits_of (by omega), fits_of (by omega), ?_⟩
      exact q _ _ _ (lay_app (lay_app (lay_cut hl) s1) (lay_cut hl)) (by omega) h6
    · have hc4 := hc
      have h4 := h3.mono (Nat.le_succ _)
      walk_at "z"
      refine ⟨fits_of (by omega), pick_cl h4 (by omega) divL fun k e5 k0 k1 h5 => ?_⟩
      walk_at "z"
      refine so_atP (fun d => ∃ s : Str, d = .str s ∧ layS s = true ∧ s.length ≤ 1) k0 (by exact k1) (fun d hd => ?_) fun d hd => ?_
      · simp only [List.mem_cons, List.not_mem_nil, or_false] at hd
        rcases hd with rfl | rfl | rfl
        · exact ⟨_, rfl, hc4, Nat.le_refl _⟩
        · exact ⟨_, rfl, hc4, Nat.le_refl _⟩
        · exact ⟨_, rfl, by decide +kernel, Nat.zero_le _⟩
      obtain ⟨s, rfl, s1, s2⟩ := hd
      walk_at "z"
      have at1 : at_ = ((at_.toNat : Nat) : Int) := by omega
      have la := cutA x at_.toNat
      rw [← at1] at la
      refine ⟨fits_of (by omega), ?_⟩
      walk_at "z"
      refine pick_cl h5 (by omega) divL fun j e6 j0 j1 h6 => ?_
      walk_at "z"
      have at2 : at_ + j = (((at_ + j).toNat : Nat) : Int) := by omega
      have lb := cutB x (at_ + j).toNat
      rw [← at2] at lb
      have hlen := len_app (cutS x none (some at_)) s
      have hlen2 := len_app (cutS x none (some at_) ++ s) (cutS x (some (at_ + j)) none)
      refine ⟨fits_of (by omega), fits_of (by omega), ?_⟩
      exact q _ _ _ (lay_app (lay_app (lay_cut hl) s1) (lay_cut hl)) (by omega) h6
  · have hc4 := hc
    have h4 := h3.mono (Nat.le_succ _)
    walk_at "z"
    refine ⟨fits_of (by omega), pick_cl h4 (by omega) divL fun k e5 k0 k1 h5 => ?_⟩
    walk_at "z"
    refine so_atP (fun d => ∃ s : Str, d = .str s ∧ layS s = true ∧ s.length ≤ 1) k0 (by exact k1) (fun d hd => ?_) fun d hd => ?_
    · simp only [List.mem_cons, List.not_mem_nil, or_false] at hd
      rcases hd with rfl | rfl | rfl
      · exact ⟨_, rfl, hc4, Nat.le_refl _⟩
      · exact ⟨_, rfl, hc4, Nat.le_refl _⟩
      · exact ⟨_, rfl, by decide +kernel, Nat.zero_le _⟩
    obtain ⟨s, rfl, s1, s2⟩ := hd
    walk_at "z"
    have at1 : at_ = ((at_.toNat : Nat) : Int) := by omega
    have la := cutA x at_.toNat
    rw [← at1] at la
    refine ⟨fits_of (by omega), ?_⟩
    walk_at "z"
    refine pick_cl h5 (by omega) divL fun j e6 j0 j1 h6 => ?_
    walk_at "z"
    have at2 : at_ + j = (((at_ + j).toNat : Nat) : Int) := by omega
    have lb := cutB x (at_ + j).toNat
    rw [← at2] at lb
    have hlen := len_app (cutS x none (some at_)) s
    have hlen2 := len_app (cutS x none (some at_) ++ s) (cutS x (some (at_ + j)) none)
    refine ⟨fits_of (by omega), fits_of (by omega), ?_⟩
    exact q _ _ _ (lay_app (lay_app (lay_cut hl) s1) (lay_cut hl)) (by omega) h6
theorem cutN {l : List D} (k : Nat) : cutD l none (some (k : Int)) = l.take k := by
  unfold cutD
  rw [HT.sIx_none, HT.sIx_nat, List.drop_zero, Nat.sub_zero, List.take_eq_take_iff]
  omega
theorem cutT {l : List D} (k : Nat) : cutD l (some (k : Int)) none = l.drop k := by
  unfold cutD
  rw [HT.sIx_none, HT.sIx_nat, List.take_of_length_le (by rw [List.length_drop]; omega)]
  by_cases h : k ≤ l.length
  · rw [Nat.min_eq_left h]
  · rw [Nat.min_eq_right (by omega), List.drop_length, List.drop_of_length_le (by omega)]
theorem cutM {l : List D} (k j : Nat) : cutD l (some (k : Int)) (some (j : Int)) = (l.drop (min k l.length)).take (min j l.length - min k l.length) := by
  unfold cutD
  rw [HT.sIx_nat, HT.sIx_nat]
theorem wS_take (ws : List Str) (k : Nat) : wS (ws.take k) + wS (ws.drop k) = wS ws := by rw [← wS_app, List.take_append_drop]
theorem wS_o {ws : List Str} {o : Str} (h : o ∈ ws) : wS [o] ≤ wS ws := by
  have := wS_mem h
  unfold wS at this ⊢
  simp; exact this
theorem lcl_cl {ws : List Str} (h : Dk n e) (hn : n ≤ 100000000) (hne : ws ≠ []) (hw : wS ws ≤ 4000000) (q : ∀ vs e' as, wS vs ≤ 2 * wS ws → (∀ v ∈ vs, v ∈ ws) → Dk (n + 3) e' → Q (.list (vs.map .str)) (e' :: as)) : Cl F_law_list_bent [e, .list (ws.map .str)] Q := by
  have hwl := wS_len ws
  have hpos : 0 < ws.length := List.length_pos_iff.mpr hne
  refine fn_cl rfl ?_
  unfold b_law_list_bent
  walk_at "e"
  refine pick_cl h (by omega) (divC_of (n := 30) (by rw [List.length_map]; omega) (by rw [List.length_map]; omega)) fun at_ e1 p0 p1 h1 => ?_
  walk_at "z"
  refine pick_cl h1 (by omega) (divC_of (n := 30) (by rw [List.length_map]; omega) (by rw [List.length_map]; omega)) fun v e2 v0 v1 h2 => ?_
  rw [List.length_map] at p1 v1
  obtain ⟨o, ho⟩ : ∃ o, ws[v.toNat]? = some o := ⟨_, List.getElem?_eq_getElem (by omega)⟩
  have hom : o ∈ ws := List.mem_of_getElem? ho
  have a1 : atI (ws.map PyData.str) v = some (.str o) := at_nat v0 (by rw [List.getElem?_map, ho]; rfl)
  walk_at "z"
  rw [a1, so_some]
  walk_at "z"
  refine pick_cl h2 (by omega) divL fun k e3 k0 k1 h3 => ?_
  walk_at "z"
  obtain ⟨a, rfl⟩ := Int.eq_ofNat_of_zero_le p0
  have ha : a < ws.length := by omega
  have s1 := wS_take ws a
  have s2 := wS_take ws (a + 1)
  have s3 := wS_take ws (a + 2)
  have so := wS_o hom
  have s4 := wS_take (ws.drop a) 1
  have s5 := wS_take (ws.drop (a + 1)) (min (a + 2) ws.length - min (a + 1) ws.length)
  have s6 := wS_take (ws.take (a + 1)) a
  rw [List.drop_drop] at s4
  have c2 : cutD (ws.map PyData.str) (some ((a : Int) + 1)) none = (ws.drop (a + 1)).map .str := by rw [show (a : Int) + 1 = ((a + 1 : Nat) : Int) from rfl, cutT, List.map_drop]
  have c1 : cutD (ws.map PyData.str) none (some (a : Int)) = (ws.take a).map .str := by rw [cutN, List.map_take]
  have c3 : cutD (ws.map PyData.str) (some (a : Int)) none = (ws.drop a).map .str := by rw [cutT, List.map_drop]
  have c6 : cutD (ws.map PyData.str) (some ((a : Int) + 2)) none = (ws.drop (a + 2)).map .str := by rw [show (a : Int) + 2 = ((a + 2 : Nat) : Int) from rfl, cutT, List.map_drop]
  have c4 : cutD (ws.map PyData.str) (some ((a : Int) + 1)) (some ((a : Int) + 2)) = ((ws.drop (a + 1)).take (min (a + 2) ws.length - min (a + 1) ws.length)).map .str := by
    rw [show (a : Int) + 1 = ((a + 1 : Nat) : Int) from rfl, show (a : Int) + 2 = ((a + 2 : Nat) : Int) from rfl, cutM, List.length_map, List.map_take, List.map_drop, Nat.min_eq_left (show a + 1 ≤ ws.length by omega)]
  have c5 : cutD (ws.map PyData.str) (some (a : Int)) (some ((a : Int) + 1)) = ((ws.take (a + 1)).drop a).map .str := by
    rw [show (a : Int) + 1 = ((a + 1 : Nat) : Int) from rfl, cutM, List.length_map, List.map_drop, List.map_take, Nat.min_eq_left (show a ≤ ws.length by omega), Nat.min_eq_left (show a + 1 ≤ ws.length by omega), List.drop_take]
  have fit : ∀ vs : List Str, wS vs ≤ 2 * wS ws → fits (vs.map PyData.str).length = true := fun vs hv => fits_of (by
    have := wS_len vs
    rw [List.length_map]; omega)
  have s7 := wS_take (ws.drop a) 2
  rw [List.drop_drop] at s7
  have mt : ∀ {k : Nat} {v : Str}, v ∈ ws.take k → v ∈ ws := fun h => List.mem_of_mem_take h
  have md : ∀ {k : Nat} {v : Str}, v ∈ ws.drop k → v ∈ ws := fun h => List.mem_of_mem_drop h
  have mo : ∀ {v : Str}, v ∈ [o] → v ∈ ws := fun h => by rw [List.mem_singleton] at h; rw [h]; exact hom
  refine br_d (fun z1 => ?_) fun z1 => ?_
  · walk_at "z"
    rw [c1, c2]
    refine ⟨fits_of (by simp only [List.length_append, List.length_map, List.length_take, List.length_drop, List.length_cons, List.length_nil]; omega), ?_⟩
    have r := q (ws.take a ++ ws.drop (a + 1)) e3 [.list (ws.map .str)] (by rw [wS_app]; omega) (fun v hv => (List.mem_append.mp hv).elim mt md) h3
    rw [List.map_append] at r
    exact r
  walk_at "z"
  refine br_d (fun z2 => ?_) fun z2 => ?_
  · walk_at "z"
    rw [c1, c3]
    refine ⟨fits_of (by simp only [List.length_append, List.length_map, List.length_take, List.length_drop, List.length_cons, List.length_nil]; omega), fits_of (by simp only [List.length_append, List.length_map, List.length_take, List.length_drop, List.length_cons, List.length_nil]; omega), ?_⟩
    have r := q (ws.take a ++ [o] ++ ws.drop a) e3 [.list (ws.map .str)] (by rw [wS_app, wS_app]; omega) (fun v hv => (List.mem_append.mp hv).elim (fun hv => (List.mem_append.mp hv).elim mt mo) md) h3
    rw [List.map_append, List.map_append] at r
    exact r
  walk_at "z"
  refine br_d (fun z3 => ?_) fun z3 => ?_
  · walk_at "z"
    refine ⟨fits_of (by simp only [List.length_append, List.length_map, List.length_take, List.length_drop, List.length_cons, List.length_nil]; omega), ?_⟩
    have r := q (ws ++ [o]) e3 [.list (ws.map .str)] (by rw [wS_app]; omega) (fun v hv => (List.mem_append.mp hv).elim id mo) h3
    rw [List.map_append] at r
    exact r
  walk_at "z"
  refine br_d (fun z4 => ?_) fun z4 => ?_
  · walk_at "z"
    rw [c1, c2]
    refine ⟨fits_of (by simp only [List.length_append, List.length_map, List.length_take, List.length_drop, List.length_cons, List.length_nil]; omega), fits_of (by simp only [List.length_append, List.length_map, List.length_take, List.length_drop, List.length_cons, List.length_nil]; omega), ?_⟩
    have r := q (ws.take a ++ [o] ++ ws.drop (a + 1)) e3 [.list (ws.map .str)] (by rw [wS_app, wS_app]; omega) (fun v hv => (List.mem_append.mp hv).elim (fun hv => (List.mem_append.mp hv).elim mt mo) md) h3
    rw [List.map_append, List.map_append] at r
    exact r
  walk_at "z"
  rw [c4, c5, c1, c6]
  refine ⟨fits_of (by simp only [List.length_append, List.length_map, List.length_take, List.length_drop, List.length_cons, List.length_nil]; omega), fits_of (by simp only [List.length_append, List.length_map, List.length_take, List.length_drop, List.length_cons, List.length_nil]; omega), fits_of (by simp only [List.length_append, List.length_map, List.length_take, List.length_drop, List.length_cons, List.length_nil]; omega), ?_⟩
  have r := q (ws.take a ++ ((ws.drop (a + 1)).take (min (a + 2) ws.length - min (a + 1) ws.length) ++ (ws.take (a + 1)).drop a) ++ ws.drop (a + 2)) e3 [.list (ws.map .str)] (by rw [wS_app, wS_app, wS_app]; omega) (fun v hv => (List.mem_append.mp hv).elim (fun hv => (List.mem_append.mp hv).elim mt fun hv => (List.mem_append.mp hv).elim (fun hv => md (List.mem_of_mem_take hv)) fun hv => mt (List.mem_of_mem_drop hv)) md) h3
  rw [List.map_append, List.map_append, List.map_append] at r
  exact r
def seps : D := .list [.str " ", .str "\n"]
theorem bent_cl (h : Dk n e) (hn : n ≤ 10000000) (hl : layS x = true) (hx : x.length ≤ 1000000) (q : ∀ y e' as, layS y = true → y.length ≤ 2 * x.length + 2 → Dk (n + 7) e' → Q (.str y) (e' :: as)) : Cl F_law_bent [e, .str x, seps] Q := by
  refine fn_cl rfl ?_
  unfold b_law_bent seps
  walk_at "e"
  refine pick_cl h (by omega) divL fun k e1 k0 k1 h1 => ?_
  walk_at "z"
  refine br_d (fun z1 => ?_) fun z1 => ?_
  · walk_at "z"
    refine sign_cl h1 (by omega) hl hx fun y e' as y1 y2 h2 => ?_
    walk_at "z"
    exact q _ _ _ y1 (by omega) h2
  walk_at "z"
  refine so_atP (fun d => ∃ s : Str, d = .str s ∧ Sep s) (by omega) (by show k - 3 < 2; omega) (fun d hd => ?_) fun d hd => ?_
  · simp only [List.mem_cons, List.not_mem_nil, or_false] at hd
    rcases hd with rfl | rfl
    · exact ⟨_, rfl, sep_b⟩
    · exact ⟨_, rfl, sep_n⟩
  obtain ⟨s, rfl, hs⟩ := hd
  walk_at "z"
  refine ⟨spl_ok hs (by omega), ?_⟩
  walk_at "z"
  refine lcl_cl h1 (by omega) (split_ne hs) (by rw [split_W hs]; omega) fun vs e' as v1 v2 h2 => ?_
  walk_at "z"
  rw [split_W hs] at v1
  refine ⟨by rw [wS_join hs]; omega, ?_⟩
  walk_at "z"
  have jl := join_len hs vs
  exact q _ _ _ (join_lay hs fun p hp => split_lay hs hl (v2 p hp)) (by omega) (h2.mono (by omega))
end
set_option Elab.async false
set_option linter.all false
set_option maxRecDepth 100000
set_option maxHeartbeats 1000000
section
variable {x : Str} {Q : D → List D → Prop} {E : Xc → List D → Prop}
theorem readX_cl (hl : layS x = true) (hn : x.length ≤ 2000000) (q : ∀ d as, deedO x = some d → Q d as) (e : deedO x = none → ∀ as, E ⟨"NoText", []⟩ as) : ClX F_read_deed [.str x] Q E := by
  refine fn_clX rfl ?_
  unfold b_read_deed
  walk_at "e"
  refine ⟨spl_ok sep_b (by omega), ?_⟩
  obtain ⟨k, r, hws⟩ := split_cons (x := x) sep_b
  have hwl : ∀ p ∈ k :: r, layS p = true ∧ p.length ≤ 2000000 := fun p hp => by
    rw [← hws] at hp
    exact ⟨split_lay sep_b hl hp, by have := split_le sep_b hp; omega⟩
  have hdo : deedO x = deedL (k :: r) := by unfold deedO; rw [hws]
  rw [hdo] at q e
  have hlen := split_n (x := x) sep_b
  rw [hws] at hlen ⊢
  have num : ∀ {p : Str}, p ∈ k :: r → ∀ {Q : D → List D → Prop}, (∀ as, Q (numD p) as) → Cl F_number_of [.str p] Q := fun hp _ q => num_cl (hwl _ hp).1 (fits_of (by have := (hwl _ hp).2; omega)) q
  clear hws hdo
  rcases forms k r with ⟨a, rfl, rfl⟩ | ⟨a, b, c, rfl, rfl⟩ | ⟨a, b, c, hk, rfl⟩ | ⟨n1, n2, n3⟩
  · have hq : deedL ["step", a] = stepD a := rfl
    rw [hq] at q e
    rw [List.map_cons, List.map_cons, List.map_nil]
    walk_at "z"
    rw [show (kls frmP "step").getD (-1) = 1 from by decide +kernel]
    walk_at "z"
    rw [show cutD [PyData.str "step", PyData.str a] (some 1) none = [a].map PyData.str from rfl]
    refine lc_map numF (fun d hd => ?_) ?_
    · obtain ⟨p, hp, rfl⟩ := List.mem_map.mp hd
      walk_at "z"
      refine num (List.mem_cons_of_mem _ hp) fun as => ?_
      walk_at "z"
      first | rfl | exact ⟨rfl, rfl⟩
    rw [numF_map]
    refine ⟨rfl, ?_⟩
    rw [List.map_cons, List.map_nil]
    walk_at "z"
    refine ⟨okE_of lay_step lay_put, ?_⟩
    rw [show decide (("step" : Str) = "put") = false from by decide +kernel]
    unfold stepD at q e
    rcases numD_k a with ha | ⟨n, ha⟩
    · rw [ha] at e ⊢
      walk_at "z"
      refine ⟨rfl, ?_⟩
      rw [show ([PyData.none].any fun y => eqF y PyData.none) = true from rfl]
      walk_at "z"
      exact e rfl _
    · rw [ha] at q ⊢
      walk_at "z"
      refine ⟨rfl, ?_⟩
      rw [show ([PyData.int n].any fun y => eqF y PyData.none) = false from rfl]
      walk_at "z"
      refine ⟨rfl, ?_⟩
      rw [show ([PyData.str "begin", PyData.str "rows"].any fun y => eqF y (PyData.str "step")) = false from by decide +kernel]
      walk_at "z"
      refine ⟨okE_of lay_step lay_put, ?_⟩
      rw [show decide (("step" : Str) = "put") = false from by decide +kernel]
      walk_at "z"
      exact q _ _ rfl
  · have hq : deedL ["put", a, b, c] = putD a b c := rfl
    rw [hq] at q e
    rw [List.map_cons, List.map_cons, List.map_cons, List.map_cons, List.map_nil]
    walk_at "z"
    rw [show (kls frmP "put").getD (-1) = 3 from by decide +kernel]
    walk_at "z"
    rw [show cutD [PyData.str "put", PyData.str a, PyData.str b, PyData.str c] (some 1) none = [a, b, c].map PyData.str from rfl]
    refine lc_map numF (fun d hd => ?_) ?_
    · obtain ⟨p, hp, rfl⟩ := List.mem_map.mp hd
      walk_at "z"
      refine num (List.mem_cons_of_mem _ hp) fun as => ?_
      walk_at "z"
      first | rfl | exact ⟨rfl, rfl⟩
    rw [numF_map]
    refine ⟨rfl, ?_⟩
    rw [List.map_cons, List.map_cons, List.map_cons, List.map_nil]
    walk_at "z"
    refine ⟨okE_of lay_put lay_put, ?_⟩
    walk_at "z"
    have hcl : layS c = true := (hwl c (by simp)).1
    refine ⟨okE_of hcl lay_none, ?_⟩
    unfold putD at q e
    by_cases hc : c = "none"
    · rw [decide_eq_true hc] at q e ⊢
      rw [show numD c = .none by rw [hc]; exact numD_non] at q e ⊢
      walk_at "z"
      rcases numD_k a with ha | ⟨n, ha⟩
      · rw [ha] at e ⊢
        walk_at "z"
        refine ⟨?_, ?_⟩
        · rcases numD_k b with hb | ⟨j, hb⟩ <;> rw [hb] <;> rfl
        rw [show ([PyData.none, numD b, PyData.int 0].any fun y => eqF y PyData.none) = true from rfl]
        walk_at "z"
        exact e rfl _
      rcases numD_k b with hb | ⟨j, hb⟩
      · rw [ha, hb] at e ⊢
        walk_at "z"
        refine ⟨rfl, ?_⟩
        rw [show ([PyData.int n, PyData.none, PyData.int 0].any fun y => eqF y PyData.none) = true from rfl]
        walk_at "z"
        exact e rfl _
      rw [ha, hb] at q ⊢
      walk_at "z"
      refine ⟨rfl, ?_⟩
      rw [show ([PyData.int n, PyData.int j, PyData.int 0].any fun y => eqF y PyData.none) = false from rfl]
      walk_at "z"
      refine ⟨rfl, ?_⟩
      rw [show ([PyData.str "begin", PyData.str "rows"].any fun y => eqF y (PyData.str "put")) = false from by decide +kernel]
      walk_at "z"
      refine ⟨okE_of lay_put lay_put, ?_⟩
      walk_at "z"
      refine ⟨okE_of hcl lay_none, ?_⟩
      rw [decide_eq_true hc]
      walk_at "z"
      exact q _ _ rfl
    · rw [decide_eq_false hc] at q e ⊢
      walk_at "z"
      have fl : flatD (numD a) = true ∧ flatD (numD b) = true ∧ flatD (numD c) = true := by
        refine ⟨?_, ?_, ?_⟩
        · rcases numD_k a with h | ⟨_, h⟩ <;> rw [h] <;> rfl
        · rcases numD_k b with h | ⟨_, h⟩ <;> rw [h] <;> rfl
        · rcases numD_k c with h | ⟨_, h⟩ <;> rw [h] <;> rfl
      refine ⟨?_, ?_⟩
      · show (true && (flatD (numD a) && (flatD (numD b) && (flatD (numD c) && true)))) = true
        rw [fl.1, fl.2.1, fl.2.2]; rfl
      rw [show ([numD a, numD b, numD c].any fun y => eqF y PyData.none) = (nonB (numD a) || (nonB (numD b) || nonB (numD c))) from by
        rcases numD_k a with h1 | ⟨_, h1⟩ <;> rcases numD_k b with h2 | ⟨_, h2⟩ <;> rcases numD_k c with h3 | ⟨_, h3⟩ <;> rw [h1, h2, h3] <;> rfl]
      rw [Bool.not_false, Bool.and_true] at q e
      cases hh : (nonB (numD a) || (nonB (numD b) || nonB (numD c))) with
      | true =>
        rw [hh] at e
        walk_at "z"
        exact e rfl _
      | false =>
        rw [hh] at q
        walk_at "z"
        refine ⟨rfl, ?_⟩
        rw [show ([PyData.str "begin", PyData.str "rows"].any fun y => eqF y (PyData.str "put")) = false from by decide +kernel]
        walk_at "z"
        refine ⟨okE_of lay_put lay_put, ?_⟩
        walk_at "z"
        refine ⟨okE_of hcl lay_none, ?_⟩
        rw [decide_eq_false hc]
        walk_at "z"
        exact q _ _ rfl
  · have hkl := lay_beg hk
    have hkn : decide (k = "put") = false := by rcases hk with rfl | rfl <;> decide +kernel
    have hq : deedL [k, a, b, c] = begD k a b c := by
      show (if k = "put" then _ else if k = "begin" ∨ k = "rows" then begD k a b c else none) = _
      rw [if_neg (of_decide_eq_false hkn), if_pos hk]
    rw [hq] at q e
    rw [List.map_cons, List.map_cons, List.map_cons, List.map_cons, List.map_nil]
    walk_at "z"
    rw [show (kls frmP k).getD (-1) = 3 from by rcases hk with rfl | rfl <;> decide +kernel]
    walk_at "z"
    rw [show cutD [PyData.str k, PyData.str a, PyData.str b, PyData.str c] (some 1) none = [a, b, c].map PyData.str from rfl]
    refine lc_map numF (fun d hd => ?_) ?_
    · obtain ⟨p, hp, rfl⟩ := List.mem_map.mp hd
      walk_at "z"
      refine num (List.mem_cons_of_mem _ hp) fun as => ?_
      walk_at "z"
      first | rfl | exact ⟨rfl, rfl⟩
    rw [numF_map]
    refine ⟨rfl, ?_⟩
    rw [List.map_cons, List.map_cons, List.map_cons, List.map_nil]
    walk_at "z"
    refine ⟨okE_of hkl lay_put, ?_⟩
    rw [hkn]
    walk_at "z"
    refine ⟨?_, ?_⟩
    · rcases numD_k a with h1 | ⟨_, h1⟩ <;> rcases numD_k b with h2 | ⟨_, h2⟩ <;> rcases numD_k c with h3 | ⟨_, h3⟩ <;> rw [h1, h2, h3] <;> rfl
    rw [show ([numD a, numD b, numD c].any fun y => eqF y PyData.none) = (nonB (numD a) || (nonB (numD b) || nonB (numD c))) from by
      rcases numD_k a with h1 | ⟨_, h1⟩ <;> rcases numD_k b with h2 | ⟨_, h2⟩ <;> rcases numD_k c with h3 | ⟨_, h3⟩ <;> rw [h1, h2, h3] <;> rfl]
    unfold begD at q e
    cases hh : (nonB (numD a) || (nonB (numD b) || nonB (numD c))) with
    | true =>
      rw [hh] at e
      walk_at "z"
      exact e rfl _
    | false =>
      rw [hh] at q e
      walk_at "z"
      refine ⟨rfl, ?_⟩
      rw [show ([PyData.str "begin", PyData.str "rows"].any fun y => eqF y (PyData.str k)) = true from by rcases hk with rfl | rfl <;> decide +kernel]
      obtain ⟨n1, h1⟩ : ∃ n, numD a = .int n := (numD_k a).resolve_left fun z => by rw [z] at hh; cases hh
      obtain ⟨n2, h2⟩ : ∃ n, numD b = .int n := (numD_k b).resolve_left fun z => by rw [z, h1] at hh; cases hh
      obtain ⟨n3, h3⟩ : ∃ n, numD c = .int n := (numD_k c).resolve_left fun z => by rw [z, h1, h2] at hh; cases hh
      rw [h1, h2, h3] at q e ⊢
      have hdv : divOk (.int n2) (.int n3) = (decide (1 ≤ n2) && (decide (0 ≤ n3) && decide (n3 ≤ 250))) := rfl
      rw [hdv] at q e
      walk_at "z"
      refine br_d (fun z1 => ?_) fun z1 => ?_
      · rw [decide_eq_true z1] at q e
        walk_at "z"
        refine br_d (fun z2 => ?_) fun z2 => ?_
        · rw [decide_eq_true z2] at q e
          walk_at "z"
          refine br_nd (fun z3 => ?_) fun z3 => ?_
          · rw [decide_eq_false z3] at e
            walk_at "z"
            exact e rfl _
          · rw [decide_eq_true z3] at q
            walk_at "z"
            refine ⟨okE_of hkl lay_put, ?_⟩
            rw [hkn]
            walk_at "z"
            exact q _ _ rfl
        · rw [decide_eq_false z2] at e
          walk_at "z"
          exact e rfl _
      · rw [decide_eq_false z1] at e
        walk_at "z"
        exact e rfl _
  · rw [List.map_cons]
    walk_at "z"
    rw [List.length_map]
    refine br_nd (fun _ => ?_) fun z => absurd (z.trans (by omega)) n1
    walk_at "z"
    exact e n3 _
theorem lrow_cl (hl : layS x = true) (hn : x.length ≤ 2000000) (q : ∀ as, Q ((deedO x).getD .none) as) : Cl F_law_read_row [.str x] Q := by
  refine fn_cl rfl ?_
  unfold b_law_read_row
  walk_at "e"
  refine ⟨spl_ok sep_b (by omega), ?_⟩
  obtain ⟨k, r, hws⟩ := split_cons (x := x) sep_b
  have hwl : ∀ p ∈ k :: r, layS p = true ∧ p.length ≤ 2000000 := fun p hp => by
    rw [← hws] at hp
    exact ⟨split_lay sep_b hl hp, by have := split_le sep_b hp; omega⟩
  have hdo : deedO x = deedL (k :: r) := by unfold deedO; rw [hws]
  rw [hdo] at q
  have hlen := split_n (x := x) sep_b
  rw [hws] at hlen ⊢
  have num : ∀ {p : Str}, p ∈ k :: r → ∀ {Q : D → List D → Prop}, (∀ as, Q (numD p) as) → Cl F_law_number [.str p] Q := fun hp _ q => lnum_cl (hwl _ hp).1 (fits_of (by have := (hwl _ hp).2; omega)) q
  clear hws hdo
  have frm : ([(PyData.str "begin", PyData.int 4), (PyData.str "rows", PyData.int 4), (PyData.str "step", PyData.int 2), (PyData.str "put", PyData.int 4)] : List (D × D)).foldl (fun a p => dput p.1 p.2 a) [] = frmL := by rfl
  walk_at "z"
  refine ⟨rfl, ?_⟩
  rw [frm]
  rcases forms k r with ⟨a, rfl, rfl⟩ | ⟨a, b, c, rfl, rfl⟩ | ⟨a, b, c, hk, rfl⟩ | ⟨n1, n2, n3⟩
  · have hq : deedL ["step", a] = stepD a := rfl
    rw [hq] at q
    have hd : dget (.str "step") frmL = some (.int 2) := by rw [frm_dget, show kls frmQ "step" = some 2 from by decide +kernel]; rfl
    rw [List.map_cons, List.map_cons, List.map_nil]
    walk_at "z"
    rw [hd]
    refine ⟨rfl, ?_⟩
    rw [show (!(some (PyData.int 2)).isSome) = false from rfl]
    walk_at "z"
    rw [hd]
    walk_at "z"
    refine ⟨rfl, ?_⟩
    rw [show cutD [PyData.str "step", PyData.str a] (some 1) none = [a].map PyData.str from rfl]
    refine lc_map numF (fun d hd => ?_) ?_
    · obtain ⟨p, hp, rfl⟩ := List.mem_map.mp hd
      walk_at "z"
      refine num (List.mem_cons_of_mem _ hp) fun as => ?_
      walk_at "z"
      first | rfl | exact ⟨rfl, rfl⟩
    rw [numF_map]
    refine ⟨rfl, ?_⟩
    rw [List.map_cons, List.map_nil]
    walk_at "z"
    refine ⟨okE_of lay_step lay_put, ?_⟩
    rw [show decide (("step" : Str) = "put") = false from by decide +kernel]
    walk_at "z"
    rw [if_neg Bool.false_ne_true]
    rw [show cutD [numD a] none (some (1 - 0)) = [numD a] from rfl]
    unfold stepD at q
    rcases numD_k a with ha | ⟨n, ha⟩
    · rw [ha] at q ⊢
      refine ⟨rfl, ?_⟩
      rw [show ([PyData.none].any fun y => eqF y PyData.none) = true from rfl]
      walk_at "z"
      exact q _
    · rw [ha] at q ⊢
      refine ⟨rfl, ?_⟩
      rw [show ([PyData.int n].any fun y => eqF y PyData.none) = false from rfl]
      walk_at "z"
      refine ⟨rfl, ?_⟩
      rw [show ([PyData.str "begin", PyData.str "rows"].any fun y => eqF y (PyData.str "step")) = false from by decide +kernel]
      walk_at "z"
      rw [so_addTT]
      refine ⟨rfl, ?_⟩
      walk_at "z"
      exact q _
  · have hq : deedL ["put", a, b, c] = putD a b c := rfl
    rw [hq] at q
    have hd : dget (.str "put") frmL = some (.int 4) := by rw [frm_dget, show kls frmQ "put" = some 4 from by decide +kernel]; rfl
    rw [List.map_cons, List.map_cons, List.map_cons, List.map_cons, List.map_nil]
    walk_at "z"
    rw [hd]
    refine ⟨rfl, ?_⟩
    rw [show (!(some (PyData.int 4)).isSome) = false from rfl]
    walk_at "z"
    rw [hd]
    walk_at "z"
    refine ⟨rfl, ?_⟩
    rw [show cutD [PyData.str "put", PyData.str a, PyData.str b, PyData.str c] (some 1) none = [a, b, c].map PyData.str from rfl]
    refine lc_map numF (fun d hd => ?_) ?_
    · obtain ⟨p, hp, rfl⟩ := List.mem_map.mp hd
      walk_at "z"
      refine num (List.mem_cons_of_mem _ hp) fun as => ?_
      walk_at "z"
      first | rfl | exact ⟨rfl, rfl⟩
    rw [numF_map]
    refine ⟨rfl, ?_⟩
    rw [List.map_cons, List.map_cons, List.map_cons, List.map_nil]
    walk_at "z"
    refine ⟨okE_of lay_put lay_put, ?_⟩
    walk_at "z"
    have hcl : layS c = true := (hwl c (by simp)).1
    refine ⟨okE_of hcl lay_none, ?_⟩
    unfold putD at q
    by_cases hc : c = "none"
    · rw [decide_eq_true hc] at q ⊢
      rw [show numD c = .none by rw [hc]; exact numD_non] at q ⊢
      walk_at "z"
      rw [if_pos trivial]
      rw [show cutD [numD a, numD b, PyData.none] none (some (3 - 1)) = [numD a, numD b] from rfl]
      refine ⟨?_, ?_⟩
      · rcases numD_k a with h1 | ⟨_, h1⟩ <;> rcases numD_k b with h2 | ⟨_, h2⟩ <;> rw [h1, h2] <;> rfl
      rw [show ([numD a, numD b].any fun y => eqF y PyData.none) = (nonB (numD a) || (nonB (numD b) || nonB PyData.none && !true)) from by
        rcases numD_k a with h1 | ⟨_, h1⟩ <;> rcases numD_k b with h2 | ⟨_, h2⟩ <;> rw [h1, h2] <;> rfl]
      cases hh : (nonB (numD a) || (nonB (numD b) || nonB PyData.none && !true)) with
      | true =>
        rw [hh] at q
        walk_at "z"
        exact q _
      | false =>
        rw [hh] at q
        walk_at "z"
        refine ⟨rfl, ?_⟩
        rw [show ([PyData.str "begin", PyData.str "rows"].any fun y => eqF y (PyData.str "put")) = false from by decide +kernel]
        walk_at "z"
        rw [so_addTT]
        refine ⟨rfl, ?_⟩
        walk_at "z"
        exact q _
    · rw [decide_eq_false hc] at q ⊢
      walk_at "z"
      rw [if_neg Bool.false_ne_true]
      rw [show cutD [numD a, numD b, numD c] none (some (3 - 0)) = [numD a, numD b, numD c] from rfl]
      refine ⟨?_, ?_⟩
      · rcases numD_k a with h1 | ⟨_, h1⟩ <;> rcases numD_k b with h2 | ⟨_, h2⟩ <;> rcases numD_k c with h3 | ⟨_, h3⟩ <;> rw [h1, h2, h3] <;> rfl
      rw [Bool.not_false, Bool.and_true] at q
      rw [show ([numD a, numD b, numD c].any fun y => eqF y PyData.none) = (nonB (numD a) || (nonB (numD b) || nonB (numD c))) from by
        rcases numD_k a with h1 | ⟨_, h1⟩ <;> rcases numD_k b with h2 | ⟨_, h2⟩ <;> rcases numD_k c with h3 | ⟨_, h3⟩ <;> rw [h1, h2, h3] <;> rfl]
      cases hh : (nonB (numD a) || (nonB (numD b) || nonB (numD c))) with
      | true =>
        rw [hh] at q
        walk_at "z"
        exact q _
      | false =>
        rw [hh] at q
        walk_at "z"
        refine ⟨rfl, ?_⟩
        rw [show ([PyData.str "begin", PyData.str "rows"].any fun y => eqF y (PyData.str "put")) = false from by decide +kernel]
        walk_at "z"
        rw [so_addTT]
        refine ⟨rfl, ?_⟩
        walk_at "z"
        exact q _
  · have hkl := lay_beg hk
    have hkn : decide (k = "put") = false := by rcases hk with rfl | rfl <;> decide +kernel
    have hq : deedL [k, a, b, c] = begD k a b c := by
      show (if k = "put" then _ else if k = "begin" ∨ k = "rows" then begD k a b c else none) = _
      rw [if_neg (of_decide_eq_false hkn), if_pos hk]
    rw [hq] at q
    have hd : dget (.str k) frmL = some (.int 4) := by rw [frm_dget, show kls frmQ k = some 4 from by rcases hk with rfl | rfl <;> decide +kernel]; rfl
    rw [List.map_cons, List.map_cons, List.map_cons, List.map_cons, List.map_nil]
    walk_at "z"
    rw [hd]
    refine ⟨rfl, ?_⟩
    rw [show (!(some (PyData.int 4)).isSome) = false from rfl]
    walk_at "z"
    rw [hd]
    walk_at "z"
    refine ⟨rfl, ?_⟩
    rw [show cutD [PyData.str k, PyData.str a, PyData.str b, PyData.str c] (some 1) none = [a, b, c].map PyData.str from rfl]
    refine lc_map numF (fun d hd => ?_) ?_
    · obtain ⟨p, hp, rfl⟩ := List.mem_map.mp hd
      walk_at "z"
      refine num (List.mem_cons_of_mem _ hp) fun as => ?_
      walk_at "z"
      first | rfl | exact ⟨rfl, rfl⟩
    rw [numF_map]
    refine ⟨rfl, ?_⟩
    rw [List.map_cons, List.map_cons, List.map_cons, List.map_nil]
    walk_at "z"
    refine ⟨okE_of hkl lay_put, ?_⟩
    rw [hkn]
    walk_at "z"
    rw [if_neg Bool.false_ne_true]
    rw [show cutD [numD a, numD b, numD c] none (some (3 - 0)) = [numD a, numD b, numD c] from rfl]
    refine ⟨?_, ?_⟩
    · rcases numD_k a with h1 | ⟨_, h1⟩ <;> rcases numD_k b with h2 | ⟨_, h2⟩ <;> rcases numD_k c with h3 | ⟨_, h3⟩ <;> rw [h1, h2, h3] <;> rfl
    rw [show ([numD a, numD b, numD c].any fun y => eqF y PyData.none) = (nonB (numD a) || (nonB (numD b) || nonB (numD c))) from by
      rcases numD_k a with h1 | ⟨_, h1⟩ <;> rcases numD_k b with h2 | ⟨_, h2⟩ <;> rcases numD_k c with h3 | ⟨_, h3⟩ <;> rw [h1, h2, h3] <;> rfl]
    unfold begD at q
    cases hh : (nonB (numD a) || (nonB (numD b) || nonB (numD c))) with
    | true =>
      rw [hh] at q
      walk_at "z"
      exact q _
    | false =>
      rw [hh] at q
      walk_at "z"
      refine ⟨rfl, ?_⟩
      rw [show ([PyData.str "begin", PyData.str "rows"].any fun y => eqF y (PyData.str k)) = true from by rcases hk with rfl | rfl <;> decide +kernel]
      obtain ⟨n1, h1⟩ : ∃ n, numD a = .int n := (numD_k a).resolve_left fun z => by rw [z] at hh; cases hh
      obtain ⟨n2, h2⟩ : ∃ n, numD b = .int n := (numD_k b).resolve_left fun z => by rw [z, h1] at hh; cases hh
      obtain ⟨n3, h3⟩ : ∃ n, numD c = .int n := (numD_k c).resolve_left fun z => by rw [z, h1, h2] at hh; cases hh
      rw [h1, h2, h3] at q ⊢
      have hdv : divOk (.int n2) (.int n3) = (decide (1 ≤ n2) && (decide (0 ≤ n3) && decide (n3 ≤ 250))) := rfl
      rw [hdv] at q
      walk_at "z"
      refine br_d (fun z1 => ?_) fun z1 => ?_
      · rw [decide_eq_false (show ¬ 1 ≤ n2 by omega)] at q
        walk_at "z"
        exact q _
      · rw [decide_eq_true (show 1 ≤ n2 by omega)] at q
        walk_at "z"
        refine br_d (fun z2 => ?_) fun z2 => ?_
        · rw [decide_eq_true z2] at q
          walk_at "z"
          refine br_nd (fun z3 => ?_) fun z3 => ?_
          · rw [decide_eq_false (show ¬ n3 ≤ 250 by omega)] at q
            walk_at "z"
            exact q _
          · rw [decide_eq_true (show n3 ≤ 250 by omega)] at q
            walk_at "z"
            rw [so_addTT]
            refine ⟨rfl, ?_⟩
            walk_at "z"
            exact q _
        · rw [decide_eq_false z2] at q
          walk_at "z"
          exact q _
  · rw [n3] at q
    rw [List.map_cons]
    walk_at "z"
    rw [frm_dget]
    refine ⟨rfl, ?_⟩
    rcases n2 with n2 | ⟨j, n2, n4⟩
    · rw [n2]
      rw [show (!(Option.map PyData.int none).isSome) = true from rfl]
      walk_at "z"
      exact q _
    · rw [n2]
      rw [show (!(Option.map PyData.int (some j)).isSome) = false from rfl]
      walk_at "z"
      rw [frm_dget, n2]
      refine ⟨rfl, ?_⟩
      rw [Option.map_some, so_some]
      walk_at "z"
      rw [List.length_map]
      refine br_nd (fun _ => ?_) fun z => absurd (by exact_mod_cast z) n4
      walk_at "z"
      exact q _
end
set_option Elab.async false
set_option linter.all false
set_option maxRecDepth 100000
set_option maxHeartbeats 1000000
theorem numD_s (w : Str) : shp 0 (numD w) = true := by rcases numD_k w with h | ⟨_, h⟩ <;> rw [h] <;> rfl
structure DeedK (d : D) : Prop where
  is : ∃ l : List D, d = .tuple l ∧ ∀ e ∈ l, shp 0 e = true
theorem deed_is {x : Str} {d : D} (h : deedO x = some d) : DeedK d := by
  unfold deedO at h
  generalize PySem.Txt.split x " " = ws at h
  have four : ∀ (k a b c : Str), layS k = true → DeedK (.tuple [.str k, numD a, numD b, numD c]) := fun k a b c hk => ⟨_, rfl, fun e he => by
    simp only [List.mem_cons, List.not_mem_nil, or_false] at he
    rcases he with rfl | rfl | rfl | rfl
    · exact hk
    · exact numD_s _
    · exact numD_s _
    · exact numD_s _⟩
  rcases ws with _ | ⟨k, _ | ⟨a, _ | ⟨b, _ | ⟨c, _ | ⟨d', r⟩⟩⟩⟩⟩
  · cases h
  · cases h
  · have h : (if k = "step" then stepD a else none) = some d := h
    by_cases hk : k = "step"
    · rw [if_pos hk] at h
      unfold stepD at h
      split at h
      · cases h
      · cases h
        exact ⟨_, rfl, fun e he => by
          simp only [List.mem_cons, List.not_mem_nil, or_false] at he
          rcases he with rfl | rfl
          · exact lay_step
          · exact numD_s _⟩
    · rw [if_neg hk] at h; cases h
  · cases h
  · have h : (if k = "put" then putD a b c else if k = "begin" ∨ k = "rows" then begD k a b c else none) = some d := h
    by_cases hk : k = "put"
    · rw [if_pos hk] at h
      unfold putD at h
      split at h
      · cases h
      · cases h
        exact four _ _ _ _ lay_put
    · rw [if_neg hk] at h
      by_cases hb : k = "begin" ∨ k = "rows"
      · rw [if_pos hb] at h
        unfold begD at h
        split at h
        · cases h
        · split at h
          · cases h
            exact four _ _ _ _ (lay_beg hb)
          · cases h
      · rw [if_neg hb] at h; cases h
  · cases h
theorem DeedK.shp {d : D} (h : DeedK d) : Z.shp 1 d = true := by
  obtain ⟨l, rfl, hl⟩ := h.is
  exact List.all_eq_true.mpr hl
theorem DeedK.noL {d : D} (h : DeedK d) : Z.noL d = true := by
  obtain ⟨l, rfl, hl⟩ := h.is
  have key : ∀ l : List D, (∀ e ∈ l, Z.shp 0 e = true) → noLs l = true := fun l => by
    induction l with
    | nil => intro _; rfl
    | cons a r ih =>
      intro hl
      show (Z.noL a && noLs r) = true
      rw [ih fun e he => hl e (List.mem_cons_of_mem _ he), Bool.and_true]
      have := hl a List.mem_cons_self
      cases a with
      | none => rfl
      | bool _ => rfl
      | int _ => rfl
      | str _ => rfl
      | _ => cases this
  exact key l hl
theorem DeedK.non {d : D} (h : DeedK d) : PyData.eqv d .none = false := by
  obtain ⟨l, rfl, hl⟩ := h.is
  simp [PyData.eqv]
def readD (x : Str) : Option (List D) := if x = "" then some [] else (PySem.Txt.split x "\n").mapM deedO
def deedF : D → Option D
  | .str w => deedO w
  | _ => none
theorem deedF_all {ws : List Str} (h : ∀ d ∈ ws.map PyData.str, deedF d ≠ none) : ws.mapM deedO = some ((ws.map PyData.str).filterMap deedF) := by
  induction ws with
  | nil => rfl
  | cons a r ih =>
    rw [List.map_cons] at h
    rw [List.mapM_cons, ih fun d hd => h d (List.mem_cons_of_mem _ hd), List.map_cons, List.filterMap_cons]
    have := h (.str a) List.mem_cons_self
    have ea : deedF (.str a) = deedO a := rfl
    rw [ea] at this ⊢
    cases hf : deedO a with
    | none => exact absurd hf this
    | some d => rfl
theorem mapM_is {ws : List Str} : ∀ {l : List D}, ws.mapM deedO = some l → (∀ d ∈ l, DeedK d) ∧ l.length = ws.length := by
  induction ws with
  | nil => intro l h; cases h; exact ⟨by simp, rfl⟩
  | cons a r ih =>
    intro l h
    rw [List.mapM_cons] at h
    cases ha : deedO a with
    | none => rw [ha] at h; cases h
    | some d =>
      rw [ha] at h
      cases hr : r.mapM deedO with
      | none => rw [hr] at h; cases h
      | some ys =>
        rw [hr] at h
        cases h
        obtain ⟨h1, h2⟩ := ih hr
        refine ⟨fun e he => ?_, by rw [List.length_cons, List.length_cons, h2]⟩
        rcases List.mem_cons.mp he with rfl | he
        · exact deed_is ha
        · exact h1 e he
theorem readD_is {x : Str} {l : List D} (h : readD x = some l) : (∀ d ∈ l, DeedK d) ∧ l.length ≤ x.length + 1 := by
  unfold readD at h
  split at h
  · cases h; exact ⟨by simp, Nat.zero_le _⟩
  · obtain ⟨h1, h2⟩ := mapM_is h
    exact ⟨h1, by rw [h2]; exact split_n sep_n⟩
section
variable {x : Str} {Q : D → List D → Prop} {E : Xc → List D → Prop}
theorem readsX_cl (hl : layS x = true) (hn : x.length ≤ 2000000) (q : ∀ l as, readD x = some l → Q (.list l) as) (e : readD x = none → ∀ as, E ⟨"NoText", []⟩ as) : ClX F_read_deeds [.str x] Q E := by
  refine fn_clX rfl ?_
  unfold b_read_deeds
  walk_at "e"
  refine ⟨okE_of hl, br_d (fun h => ?_) fun h => ?_⟩
  · walk_at "z"
    exact q _ _ (by unfold readD; rw [if_pos h])
  have hr : readD x = (PySem.Txt.split x "\n").mapM deedO := by unfold readD; rw [if_neg h]
  rw [hr] at q e
  walk_at "z"
  refine ⟨spl_ok sep_n (by omega), ?_⟩
  walk_at "z"
  have hln := split_n (x := x) sep_n
  refine ⟨fits_of (by rw [List.length_map]; omega), ?_⟩
  refine lcx_map deedF ⟨"NoText", []⟩ (fun d hd => ?_) (fun h => ?_) (fun h s4 hs4 => ?_)
  · obtain ⟨w, hw, rfl⟩ := List.mem_map.mp hd
    walk_at "z"
    refine readX_cl (split_lay sep_n hl hw) (by have := split_le sep_n hw; omega) (fun d as hd => ?_) fun hd as => ?_
    · walk_at "z"
      first | exact hd | exact ⟨hd, rfl⟩
    · walk_at "z"
      first | exact hd | exact ⟨hd, rfl⟩ | exact ⟨hd, rfl, rfl⟩
  · walk_at "z"
    exact q _ _ (deedF_all h)
  · obtain ⟨z, rfl⟩ : ∃ z, s4 = [some (.str x), z] := by
      have h : s4.set 1 none = [some (.str x), none] := hs4
      rcases s4 with _ | ⟨b0, _ | ⟨b1, _ | ⟨b2, r⟩⟩⟩ <;> simp at h
      obtain rfl := h
      exact ⟨_, rfl⟩
    walk_at "z"
    obtain ⟨d, hd, hd2⟩ := h
    obtain ⟨w, hw, rfl⟩ := List.mem_map.mp hd
    exact e (mapM_no hw hd2) _
def lrowF : D → Option D
  | .str w => some ((deedO w).getD .none)
  | _ => none
theorem lrowF_map {ws : List Str} : (ws.map PyData.str).filterMap lrowF = ws.map fun w => (deedO w).getD .none := by
  induction ws with
  | nil => rfl
  | cons a r ih => rw [List.map_cons, List.filterMap_cons, List.map_cons, ← ih]; rfl
theorem lrow_shp {ws : List Str} : shp 2 (.list (ws.map fun w => (deedO w).getD .none)) = true := by
  show List.all _ (shp 1) = true
  rw [List.all_eq_true]
  intro d hd
  obtain ⟨w, hw, rfl⟩ := List.mem_map.mp hd
  cases h : deedO w with
  | none => rfl
  | some d => exact (deed_is h).shp
theorem lrow_any {ws : List Str} : (match ws.mapM deedO with
    | some l => ((ws.map fun w => (deedO w).getD .none).any fun z => PyData.eqv z .none) = false ∧ l = ws.map fun w => (deedO w).getD .none
    | none => ((ws.map fun w => (deedO w).getD .none).any fun z => PyData.eqv z .none) = true) := by
  induction ws with
  | nil => exact ⟨rfl, rfl⟩
  | cons a r ih =>
    rw [List.mapM_cons, List.map_cons, List.any_cons]
    cases ha : deedO a with
    | none =>
      show (PyData.eqv ((none : Option D).getD .none) .none || _) = true
      rw [show PyData.eqv ((none : Option D).getD .none) .none = true by simp [PyData.eqv]]
      rfl
    | some d =>
      have e1 : PyData.eqv ((some d).getD .none) .none = false := (deed_is ha).non
      cases hr : r.mapM deedO with
      | none =>
        rw [hr] at ih
        show (PyData.eqv ((some d).getD .none) .none || _) = true
        rw [e1]
        exact ih
      | some l =>
        rw [hr] at ih
        show (PyData.eqv ((some d).getD .none) .none || _) = false ∧ d :: l = (some d).getD .none :: _
        rw [e1]
        exact ⟨ih.1, by rw [ih.2]; rfl⟩
theorem lread_cl (hl : layS x = true) (hn : x.length ≤ 2000000) (q : ∀ as, Q (((readD x).map .list).getD .none) as) : Cl F_law_read [.str x] Q := by
  refine fn_cl rfl ?_
  unfold b_law_read
  walk_at "e"
  refine ⟨okE_of hl, br_d (fun h => ?_) fun h => ?_⟩
  · walk_at "z"
    have := q [.str x]
    rw [show readD x = some [] by unfold readD; rw [if_pos h]] at this
    exact this
  have hr : readD x = (PySem.Txt.split x "\n").mapM deedO := by unfold readD; rw [if_neg h]
  rw [hr] at q
  walk_at "z"
  refine ⟨spl_ok sep_n (by omega), ?_⟩
  walk_at "z"
  have hln := split_n (x := x) sep_n
  refine lc_map lrowF (fun d hd => ?_) ?_
  · obtain ⟨w, hw, rfl⟩ := List.mem_map.mp hd
    walk_at "z"
    refine lrow_cl (split_lay sep_n hl hw) (by have := split_le sep_n hw; omega) fun as => ?_
    walk_at "z"
    first | rfl | exact ⟨rfl, rfl⟩
  · rw [lrowF_map]
    have ha := lrow_any (ws := PySem.Txt.split x "\n")
    refine ⟨fits_of (by rw [List.length_map]; omega), ?_⟩
    walk_at "z"
    refine so_inDp (shaped_of (n := 0) rfl) (shaped_of lrow_shp) ?_
    cases hm : (PySem.Txt.split x "\n").mapM deedO with
    | none =>
      rw [hm] at ha q
      rw [show _ = true from ha]
      walk_at "z"
      exact q _
    | some l =>
      rw [hm] at ha q
      rw [ha.1]
      walk_at "z"
      rw [← ha.2]
      exact q _
end
set_option Elab.async false
set_option linter.all false
set_option maxRecDepth 100000
set_option maxHeartbeats 1000000
def partS : D → Str
  | .int i => toString i
  | .str s => s
  | _ => "none"
def isWord (s : Str) : Prop := s = "begin" ∨ s = "rows" ∨ s = "step" ∨ s = "put"
structure PartOk (d : D) : Prop where
  is : d = .none ∨ (∃ i, d = .int i ∧ i.natAbs < 10 ^ 61) ∨ ∃ s, d = .str s ∧ isWord s
theorem int_lay (i : Int) : layS (toString i) = true := by
  rw [lay_iff]
  intro c hc
  rcases Nat.lt_or_ge c 0x110000 with h | h
  · exact h
  · exact absurd hc (PyProof.Rows.int_text_free' c ⟨by omega, .inr (by omega)⟩ i)
theorem int_len {i : Int} (h : i.natAbs < 10 ^ 61) : ((toString i : String) : Str).length ≤ 62 := by
  have := int_text_length_le10 (k := 61) (by decide) h
  show (Str.ofString (toString i)).length ≤ 62
  rw [ofString_length]
  exact this
theorem log_ok {i : Int} (h : i.natAbs < 10 ^ 61) : decide (i.natAbs.log2 < 1920) = true := by
  refine decide_eq_true ?_
  by_cases z : i.natAbs = 0
  · rw [z]; decide
  · rw [Nat.log2_lt z]
    exact Nat.lt_of_lt_of_le h (by decide +kernel)
theorem part_lay {d : D} (h : PartOk d) : layS (partS d) = true := by
  rcases h.is with rfl | ⟨i, rfl, hi⟩ | ⟨s, rfl, hs⟩
  · show layS "none" = true
    decide +kernel
  · exact int_lay i
  · show layS s = true
    rcases hs with rfl | rfl | rfl | rfl <;> decide +kernel
theorem part_len {d : D} (h : PartOk d) : (partS d).length ≤ 62 := by
  rcases h.is with rfl | ⟨i, rfl, hi⟩ | ⟨s, rfl, hs⟩
  · show ("none" : Str).length ≤ 62
    decide +kernel
  · exact int_len hi
  · show s.length ≤ 62
    rcases hs with rfl | rfl | rfl | rfl <;> decide +kernel
structure RowOk (l : List D) : Prop where
  n : l.length ≤ 4
  p : ∀ d ∈ l, PartOk d
def rowS (l : List D) : Str := PySem.Txt.join " " (l.map partS)
def textS (rows : List (List D)) : Str := PySem.Txt.join "\n" (rows.map rowS)
theorem wS_parts : ∀ {l : List D}, (∀ d ∈ l, PartOk d) → wS (l.map partS) ≤ 63 * l.length
  | [], _ => Nat.zero_le _
  | a :: r, h => by
    have h1 := part_len (h a List.mem_cons_self)
    have h2 := wS_parts fun e he => h e (List.mem_cons_of_mem a he)
    unfold wS at h2 ⊢
    rw [List.map_cons, List.map_cons, List.sum_cons, List.length_cons]
    omega
theorem wS_row {l : List D} (h : RowOk l) : wS (l.map partS) ≤ 252 := by
  have := wS_parts h.p
  have := h.n
  omega
theorem rowS_lay {l : List D} (h : RowOk l) : layS (rowS l) = true := join_lay sep_b fun p hp => by
  obtain ⟨e, he, rfl⟩ := List.mem_map.mp hp
  exact part_lay (h.p e he)
theorem rowS_len {l : List D} (h : RowOk l) : (rowS l).length ≤ 252 := Nat.le_trans (join_len sep_b _) (wS_row h)
theorem wS_rows : ∀ {rows : List (List D)}, (∀ l ∈ rows, RowOk l) → wS (rows.map rowS) ≤ 253 * rows.length
  | [], _ => Nat.zero_le _
  | a :: r, h => by
    have h1 := rowS_len (h a List.mem_cons_self)
    have h2 := wS_rows fun e he => h e (List.mem_cons_of_mem a he)
    unfold wS at h2 ⊢
    rw [List.map_cons, List.map_cons, List.sum_cons, List.length_cons]
    omega
structure DsOk (rows : List (List D)) : Prop where
  n : rows.length ≤ 599
  p : ∀ l ∈ rows, RowOk l
theorem wS_text {rows : List (List D)} (h : DsOk rows) : wS (rows.map rowS) ≤ 151547 := by
  have := wS_rows h.p
  have := h.n
  omega
theorem textS_len {rows : List (List D)} (h : DsOk rows) : (textS rows).length ≤ 151547 := Nat.le_trans (join_len sep_n _) (wS_text h)
theorem textS_lay {rows : List (List D)} (h : DsOk rows) : layS (textS rows) = true := join_lay sep_n fun p hp => by
  obtain ⟨r, hr, rfl⟩ := List.mem_map.mp hp
  exact rowS_lay (h.p r hr)
theorem row_shp {l : List D} (h : RowOk l) : shp 1 (.tuple l) = true := by
  show l.all (shp 0) = true
  rw [List.all_eq_true]
  intro d hd
  rcases (h.p d hd).is with rfl | ⟨i, rfl, hi⟩ | ⟨s, rfl, hs⟩
  · rfl
  · rfl
  · show PyData.canLay0 (.str s) = true
    rcases hs with rfl | rfl | rfl | rfl <;> decide +kernel
theorem ds_shp {rows : List (List D)} (h : DsOk rows) : shp 2 (.list (rows.map .tuple)) = true := by
  show List.all _ (shp 1) = true
  rw [List.all_eq_true]
  intro d hd
  obtain ⟨r, hr, rfl⟩ := List.mem_map.mp hd
  exact row_shp (h.p r hr)
section
variable {Q : D → List D → Prop} {d : D} {rows : List (List D)}
def wordF (d : D) : Option D := some (.str (partS d))
theorem wordF_map {l : List D} : l.filterMap wordF = (l.map partS).map .str := by
  induction l with
  | nil => rfl
  | cons a r ih => rw [List.filterMap_cons, List.map_cons, List.map_cons, ← ih]; rfl
def rowF (d : D) : Option D := match d with
  | .tuple r => some (.str (rowS r))
  | _ => none
theorem rowF_map {l : List (List D)} : (l.map PyData.tuple).filterMap rowF = (l.map rowS).map .str := by
  induction l with
  | nil => rfl
  | cons a r ih => rw [List.map_cons, List.filterMap_cons, List.map_cons, List.map_cons, ← ih]; rfl
theorem word_cl (h : PartOk d) (q : ∀ as, Q (.str (partS d)) as) : Cl F_word_of [d] Q := by
  refine fn_cl rfl ?_
  unfold b_word_of
  walk_at "e"
  rcases h.is with rfl | ⟨i, rfl, hi⟩ | ⟨s, rfl, hs⟩
  · walk_at "z"
    exact q _
  · walk_at "z"
    exact ⟨log_ok hi, q _⟩
  · walk_at "z"
    exact q _
theorem show_cl (h : DsOk rows) (q : ∀ as, Q (.str (textS rows)) as) : Cl F_show_deeds [.list (rows.map .tuple)] Q := by
  refine fn_cl rfl ?_
  unfold b_show_deeds
  walk_at "e"
  refine lc_map rowF (fun d hd => ?_) ?_
  · obtain ⟨l, hl, rfl⟩ := List.mem_map.mp hd
    have hr := h.p l hl
    walk_at "z"
    refine lc_map wordF (fun d hd => ?_) ?_
    · walk_at "z"
      refine word_cl (hr.p d hd) fun as => ?_
      walk_at "z"
      first | rfl | exact ⟨rfl, rfl⟩
    · rw [wordF_map]
      have := hr.n
      refine ⟨fits_of (by rw [List.length_map, List.length_map]; omega), ?_⟩
      walk_at "z"
      refine ⟨by rw [wS_join sep_b]; exact Nat.le_trans (wS_row hr) (by omega), ?_⟩
      first | rfl | exact ⟨rfl, rfl⟩
  · rw [rowF_map]
    have := h.n
    refine ⟨fits_of (by rw [List.length_map, List.length_map]; omega), ?_⟩
    walk_at "z"
    refine ⟨by rw [wS_join sep_n]; exact Nat.le_trans (wS_text h) (by omega), ?_⟩
    exact q _
theorem ltext_cl (h : DsOk rows) (q : ∀ as, Q (.str (textS rows)) as) : Cl F_law_text [.list (rows.map .tuple)] Q := by
  have hn := h.n
  refine fn_cl rfl ?_
  unfold b_law_text
  walk_at "e"
  refine for_it (fun i s => ∃ x2 x3, s = [some (.list (rows.map .tuple)), some (.list (((rows.take i).map rowS).map .str)), x2, x3]) ⟨_, _, rfl⟩ ?_ ?_
  · rintro i d _ hd ⟨x2, x3, rfl⟩
    rw [List.getElem?_map] at hd
    obtain ⟨r, hr, rfl⟩ := Option.map_eq_some_iff.mp hd
    have hrk := h.p r (List.mem_of_getElem? hr)
    have hx : rows.take (i + 1) = rows.take i ++ [r] := by rw [List.take_add_one, hr]; rfl
    walk_at "z"
    refine lc_map wordF (fun d hd => ?_) ?_
    · walk_at "z"
      rcases (hrk.p d hd).is with rfl | ⟨i, rfl, hi⟩ | ⟨s, rfl, hs⟩
      · walk_at "z"
        first | rfl | exact ⟨rfl, rfl⟩
      · walk_at "z"
        refine ⟨log_ok hi, ?_⟩
        first | rfl | exact ⟨rfl, rfl⟩
      · walk_at "z"
        first | rfl | exact ⟨rfl, rfl⟩
    · rw [wordF_map]
      have := hrk.n
      refine ⟨fits_of (by rw [List.length_map, List.length_map]; omega), ?_⟩
      walk_at "z"
      refine ⟨by rw [wS_join sep_b]; exact Nat.le_trans (wS_row hrk) (by omega), ?_⟩
      walk_at "z"
      have hlt : ((List.map PyData.str (List.map rowS (List.take i rows))).length) < sizeLine := by
        rw [List.length_map, List.length_map, List.length_take]
        exact Nat.lt_of_le_of_lt (Nat.le_trans (Nat.min_le_right _ _) hn) (by decide)
      refine ⟨decide_eq_true hlt, some (.tuple r), x3, ?_⟩
      rw [hx, List.map_append, List.map_append]
      rfl
  · rintro _ ⟨x2, x3, rfl⟩
    rw [List.length_map, List.take_length]
    walk_at "z"
    refine ⟨by rw [wS_join sep_n]; exact Nat.le_trans (wS_text h) (by omega), ?_⟩
    exact q _
end
set_option Elab.async false
set_option linter.all false
set_option maxRecDepth 100000
set_option maxHeartbeats 1000000
section
variable {x : Str} {Q : D → List D → Prop} {n : Nat} {e : D}
theorem told_cl (hl : layS x = true) (hn : x.length ≤ 2000000)
    (q1 : ∀ l as, readD x = some l → Q (.tuple [.list l, .str ""]) as)
    (q2 : ∀ as, readD x = none → Q (.tuple [.none, .str "NoText+"]) as) : Cl F_law_told [.str x] Q := by
  refine fn_cl rfl ?_
  unfold b_law_told
  walk_at "e"
  refine readsX_cl hl hn (fun l as ht => ?_) fun ht as => ?_
  · walk_at "z"
    exact q1 _ _ ht
  · have e1 : subc_SlackError (Xc.mk "NoText" []).c = some true := rfl
    have e2 : (nmT (Xc.mk "NoText" []).c).map PyData.str = some (.str "NoText+") := rfl
    rw [e1, e2]
    walk_at "z"
    exact q2 _ ht
theorem pk_int {i : Int} (h : i.natAbs < 2 ^ 200) : PartOk (.int i) := ⟨.inr (.inl ⟨i, rfl, Nat.lt_of_lt_of_le h (by decide +kernel)⟩)⟩
theorem pk_small {i : Int} (h0 : -1000000000000 ≤ i) (h1 : i ≤ 1000000000000) : PartOk (.int i) := pk_int (Nat.lt_of_le_of_lt (show i.natAbs ≤ 1000000000000 by omega) (by decide +kernel))
theorem row4 {a b c d : D} (ha : PartOk a) (hb : PartOk b) (hc : PartOk c) (hd : PartOk d) : RowOk [a, b, c, d] := ⟨Nat.le_refl 4, fun e he => by
  simp only [List.mem_cons, List.not_mem_nil, or_false] at he
  rcases he with rfl | rfl | rfl | rfl <;> assumption⟩
theorem row2 {a b : D} (ha : PartOk a) (hb : PartOk b) : RowOk [a, b] := ⟨by show 2 ≤ 4; omega, fun e he => by
  simp only [List.mem_cons, List.not_mem_nil, or_false] at he
  rcases he with rfl | rfl <;> assumption⟩
theorem pk_word {s : Str} (h : isWord s) : PartOk (.str s) := ⟨.inr (.inr ⟨s, rfl, h⟩)⟩
theorem pk_none : PartOk .none := ⟨.inl rfl⟩
theorem ldeeds_cl (h : Dk n e) (hn : n ≤ 10000) (q : ∀ rows e', DsOk rows → Dk (n + 20000) e' → Q (.list (rows.map .tuple)) [e']) : Cl F_law_deeds [e] Q := by
  refine fn_cl rfl ?_
  unfold b_law_deeds
  walk_at "e"
  refine pick_cl h (by omega) divL fun v1 e v10 v11 h => ?_
  walk_at "z"
  refine pick_cl h (by omega) divL fun v2 e v20 v21 h => ?_
  walk_at "z"
  refine so_atP (fun d => ∃ k : Nat, d = .int k ∧ k ≤ 599) (by split <;> omega) (by show _ < (2 : Int); split <;> omega) (by
    intro d hd
    simp only [List.mem_cons, List.not_mem_nil, or_false] at hd
    rcases hd with rfl | rfl
    · exact ⟨v1.toNat, by rw [Int.toNat_of_nonneg v10], by omega⟩
    · exact ⟨599, rfl, by omega⟩) fun d hd => ?_
  obtain ⟨c, rfl, hc⟩ := hd
  walk_at "z"
  refine ⟨by omega, ?_⟩
  refine for_r0 (fun i s => ∃ (e : D) (rows : List (List D)) (x2 x3 x4 x5 : Option D), Dk (n + 2 + 20 * i) e ∧ rows.length = i ∧ (∀ l ∈ rows, RowOk l) ∧ s = [some e, some (.list (rows.map .tuple)), x2, x3, x4, x5]) ⟨_, [], _, _, _, _, h, rfl, by simp, rfl⟩ ?_ ?_
  · clear h
    rintro i _ hi ⟨e, rows, x2, x3, x4, x5, h, hr, hk, rfl⟩
    have hi : i < 599 := by omega
    have step : ∀ {l : List D} {e' : D} {x2 x3 x4 x5 : Option D}, RowOk l → Dk (n + 2 + 20 * i + 20) e' → ∃ (e : D) (rows' : List (List D)) (x2' x3' x4' x5' : Option D), Dk (n + 2 + 20 * (i + 1)) e ∧ rows'.length = i + 1 ∧ (∀ l ∈ rows', RowOk l) ∧ [some e', some (.list ((rows.map PyData.tuple) ++ [.tuple l])), x2, x3, x4, x5] = [some e, some (.list (rows'.map .tuple)), x2', x3', x4', x5'] := fun {l e' x2 x3 x4 x5} hl he => by
      refine ⟨e', rows ++ [l], x2, x3, x4, x5, ?_, by rw [List.length_append, hr]; rfl, fun m hm => ?_, by rw [List.map_append]; rfl⟩
      · rw [Nat.mul_add]; exact he
      · rcases List.mem_append.mp hm with hm | hm
        · exact hk m hm
        · rw [List.mem_singleton] at hm
          subst hm
          exact hl
    have hlt : (rows.map PyData.tuple).length < sizeLine := by
      rw [List.length_map, hr]
      exact Nat.lt_of_lt_of_le hi (by decide)
    walk_at "z"
    refine pick_cl h (by omega) divL fun w e w0 w1 h => ?_
    walk_at "z"
    refine great_cl h (by omega) (by omega) (by omega) fun g e g0 g1 h => ?_
    walk_at "z"
    refine pick_cl h (by omega) divL fun v3 e v30 v31 h => ?_
    walk_at "z"
    refine pick_cl h (by omega) divL fun v4 e v40 v41 h => ?_
    walk_at "z"
    refine so_atP (fun d => ∃ v : Int, d = .int v ∧ 0 ≤ v ∧ v < 2 ^ 200) v40 v41 (fun d hd => ?_) fun d hd => ?_
    · simp only [List.mem_cons, List.not_mem_nil, or_false] at hd
      rcases hd with rfl | rfl | rfl
      · exact ⟨_, rfl, g0, g1⟩
      · exact ⟨_, rfl, v30, Int.lt_of_lt_of_le v31 (by decide +kernel)⟩
      · exact ⟨_, rfl, Int.le_refl _, by decide +kernel⟩
    obtain ⟨u, rfl, u0, u1⟩ := hd
    walk_at "z"
    refine pick_cl h (by omega) divL fun v5 e v50 v51 h => ?_
    walk_at "z"
    refine so_atP (fun d => ∃ v : Int, d = .int v ∧ (v = 1 ∨ v = -1)) v50 v51 (fun d hd => ?_) fun d hd => ?_
    · simp only [List.mem_cons, List.not_mem_nil, or_false] at hd
      rcases hd with rfl | rfl
      · exact ⟨_, rfl, .inl rfl⟩
      · exact ⟨_, rfl, .inr rfl⟩
    obtain ⟨sg, rfl, hsg⟩ := hd
    walk_at "z"
    have hfar : (u * sg).natAbs < 2 ^ 200 := by
      rw [Int.natAbs_mul]
      have h1 : sg.natAbs = 1 := by rcases hsg with rfl | rfl <;> rfl
      rw [h1, Nat.mul_one]
      have h2 : ((u.natAbs : Nat) : Int) < ((2 ^ 200 : Nat) : Int) := by rw [Int.natAbs_of_nonneg u0]; exact_mod_cast u1
      exact_mod_cast h2
    refine ⟨mulC_of (m := 200) (n := 2) (abs_pow2 u0 u1) (by rcases hsg with rfl | rfl <;> decide) (by omega), ?_⟩
    generalize u * sg = far at hfar
    have pf := pk_int hfar
    refine br_d (fun z1 => ?_) fun z1 => ?_
    · walk_at "z"
      refine pick_cl h (by omega) divL fun v6 e v60 v61 h => ?_
      walk_at "z"
      refine pick_cl h (by omega) divL fun v7 e v70 v71 h => ?_
      walk_at "z"
      refine so_atP (fun d => ∃ v : Int, d = .int v ∧ 0 ≤ v ∧ v ≤ 250) v70 v71 (fun d hd => ?_) fun d hd => ?_
      · simp only [List.mem_cons, List.not_mem_nil, or_false] at hd
        rcases hd with rfl | rfl | rfl
        · exact ⟨_, rfl, v60, by omega⟩
        · exact ⟨_, rfl, by omega, by omega⟩
        · exact ⟨_, rfl, by omega, by omega⟩
      obtain ⟨mn, rfl, m0, m1⟩ := hd
      walk_at "z"
      refine so_atP (fun d => ∃ s : Str, d = .str s ∧ isWord s) w0 (by show w < 2; omega) (fun d hd => ?_) fun d hd => ?_
      · simp only [List.mem_cons, List.not_mem_nil, or_false] at hd
        rcases hd with rfl | rfl
        · exact ⟨_, rfl, .inl rfl⟩
        · exact ⟨_, rfl, .inr (.inl rfl)⟩
      obtain ⟨sw, rfl, hsw⟩ := hd
      walk_at "z"
      refine pick_cl h (by omega) divL fun v8 e v80 v81 h => ?_
      walk_at "z"
      exact ⟨decide_eq_true hlt, step (row4 (pk_word hsw) pf (pk_small (by omega) (by omega)) (pk_small (by omega) (by omega))) (h.mono (by omega))⟩
    · walk_at "z"
      refine br_d (fun z2 => ?_) fun z2 => ?_
      · walk_at "z"
        refine pick_cl h (by omega) divL fun v6 e v60 v61 h => ?_
        walk_at "z"
        refine pick_cl h (by omega) divL fun v7 e v70 v71 h => ?_
        walk_at "z"
        refine so_atP PartOk v70 v71 (fun d hd => ?_) fun d hd => ?_
        · simp only [List.mem_cons, List.not_mem_nil, or_false] at hd
          rcases hd with rfl | rfl
          · exact pk_small (by omega) (by omega)
          · exact pf
        walk_at "z"
        exact ⟨decide_eq_true hlt, step (row2 (pk_word (.inr (.inr (.inl rfl)))) hd) (h.mono (by omega))⟩
      · walk_at "z"
        refine pick_cl h (by omega) divL fun v6 e v60 v61 h => ?_
        walk_at "z"
        refine pick_cl h (by omega) divL fun v7 e v70 v71 h => ?_
        walk_at "z"
        refine pick_cl h (by omega) divL fun v8 e v80 v81 h => ?_
        walk_at "z"
        refine so_atP PartOk v80 v81 (fun d hd => ?_) fun d hd => ?_
        · simp only [List.mem_cons, List.not_mem_nil, or_false] at hd
          rcases hd with rfl | rfl
          · exact pk_none
          · exact pk_small (by omega) (by omega)
        walk_at "z"
        exact ⟨decide_eq_true hlt, step (row4 (pk_word (.inr (.inr (.inr rfl)))) (pk_small (by omega) (by omega)) pf hd) (h.mono (by omega))⟩
  · rintro _ ⟨e, rows, x2, x3, x4, x5, h, hr, hk, rfl⟩
    rw [Int.toNat_natCast] at h hr
    walk_at "z"
    exact q _ _ ⟨by omega, hk⟩ (h.mono (by omega))
end
set_option Elab.async false
set_option linter.all false
set_option maxRecDepth 100000
set_option maxHeartbeats 1000000
theorem read_shp {x : Str} {l : List D} (h : readD x = some l) : shp 2 (.list l) = true := by
  show List.all _ (shp 1) = true
  rw [List.all_eq_true]
  intro d hd
  exact ((readD_is h).1 d hd).shp
theorem read_no {x r : Str} (hx : x ≠ "") (hr : r ∈ PySem.Txt.split x "\n") (h : deedO r = none) : readD x = none := by
  unfold readD
  rw [if_neg hx]
  exact mapM_no hr h
theorem split_last {s : Nat} : ∀ (l acc : List Nat), [] ∈ TL.spl [s] 0 acc (l ++ [s])
  | [], acc => by
    have : TL.pre [s] ([] ++ [s]) = true := by simp [TL.pre]
    rw [List.nil_append] at this ⊢
    rw [TL.spl_hit this]
    simp [TL.spl_nil]
  | c :: r, acc => by
    rw [List.cons_append]
    cases h : TL.pre [s] (c :: (r ++ [s])) with
    | true =>
      rw [TL.spl_hit h]
      exact List.mem_cons_of_mem _ (split_last r [])
    | false =>
      rw [TL.spl_miss h]
      exact split_last r _
theorem no_tail {x : Str} : readD (x ++ "\n") = none := by
  refine read_no (fun z => ?_) (r := "") ?_ ?_
  · have := len_app x "\n"
    rw [z] at this
    have h1 : ("" : Str).length = 0 := rfl
    have h2 : ("\n" : Str).length = 1 := rfl
    omega
  · have e := TL.split_spl (x ++ "\n") "\n" (by simp [show TL.tl "\n" = [10] from rfl]) (TL.kind_ok sep_n.all)
    rw [TL.tl_append, show TL.tl "\n" = [10] from rfl] at e
    have m : ([] : List Nat) ∈ (PySem.Txt.split (x ++ "\n") "\n").map TL.tl := by rw [e]; exact split_last _ _
    obtain ⟨p, hp, hp2⟩ := List.mem_map.mp m
    have : p = "" := TL.ext_tl (by rw [hp2]; rfl)
    rw [← this]; exact hp
  · decide +kernel
theorem no_x : readD "x" = none := by
  have : (readD "x").isNone = true := by decide +kernel
  exact Option.isNone_iff_eq_none.mp this
theorem no_put : readD "put" = none := by
  have : (readD "put").isNone = true := by decide +kernel
  exact Option.isNone_iff_eq_none.mp this
set_option Elab.async false
set_option linter.all false
set_option maxRecDepth 100000
set_option maxHeartbeats 1000000
theorem law_true (ns : List Int) (hl : ns.length ≤ 63) : ∃ as, F_law [scr ns] = .ok (.bool true) as := by
  suffices h : Cl F_law [scr ns] fun d _ => d = .bool true by
    obtain ⟨d, as, e, rfl⟩ := h.out
    exact ⟨as, e⟩
  refine fn_cl rfl ?_
  unfold b_law scr
  walk_at "e"
  refine ⟨by rw [fits_eq, List.length_map]; omega, ?_⟩
  obtain ⟨z, hz⟩ := first_at ns
  rw [hz]
  walk_at "z"
  refine deck_cl (n := 0) (by omega) (by omega) fun e h => ?_
  walk_at "z"
  refine ldeeds_cl h (by omega) fun rows e hds h => ?_
  walk_at "z"
  refine show_cl hds fun as => ?_
  walk_at "z"
  rw [show isiB "str" (PyData.str (textS rows)) = true from rfl]
  walk_at "z"
  refine ltext_cl hds fun as => ?_
  have hx1 := textS_len hds
  have hx2 := textS_lay hds
  have hsh : shp 2 (.list (rows.map .tuple)) = true := ds_shp hds
  walk_at "z"
  refine ⟨okE_of hx2 hx2, ?_⟩
  refine so_ne_s (n := 2) hsh ?_
  walk_at "z"
  refine ⟨fits_of (by have := cut_len (l := ns.map PyData.int) (lo := some 1) (hi := some 17); rw [List.length_map] at this; omega), ?_⟩
  generalize hL : textS rows = tx at hx1 hx2
  clear h
  refine for_it (fun i s => ∃ (e : D) (x5 x6 x7 x8 x9 x10 : Option D), s = [some (.list (ns.map .int)), some e, some (.list (rows.map .tuple)), some (.list (rows.map .tuple)), some (.str tx), x5, x6, x7, x8, x9, x10]) ⟨_, _, _, _, _, _, _, rfl⟩ ?_ ?_
  · rintro i d _ hd ⟨e, x5, x6, x7, x8, x9, x10, rfl⟩
    obtain ⟨c, rfl⟩ : ∃ c, d = .int c := ints_item hd
    walk_at "z"
    refine deck_cl (n := 7900) (by omega) (by omega) fun e h => ?_
    walk_at "z"
    refine pick_cl h (by omega) divL fun v e v0 v1 h => ?_
    walk_at "z"
    refine ⟨by omega, ?_⟩
    refine for_r0 (fun j s => ∃ (e : D) (y : Str) (x7 : Option D), Dk (7910 + 7 * j) e ∧ layS y = true ∧ y.length + 2 ≤ 151549 * 2 ^ j ∧ s = [some (.list (ns.map .int)), some e, some (.list (rows.map .tuple)), some (.list (rows.map .tuple)), some (.str tx), some (.int c), some (.str y), x7, x8, x9, x10]) ⟨_, tx, _, h.mono (by omega), hx2, by omega, rfl⟩ ?_ ?_
    · clear h
      rintro j _ hj ⟨e, y, x7, h, y1, y2, rfl⟩
      have hp : 2 ^ j ≤ 2 ^ 2 := Nat.pow_le_pow_right (by omega) (by omega)
      walk_at "z"
      refine bent_cl h (by omega) y1 (by omega) fun y' e' as z1 z2 h => ?_
      walk_at "z"
      exact ⟨_, _, _, h.mono (by omega), z1, by rw [Nat.pow_succ]; omega, rfl⟩
    · clear h
      rintro _ ⟨e, y, x7, h, y1, y2, rfl⟩
      have hp : 2 ^ v.toNat ≤ 2 ^ 3 := Nat.pow_le_pow_right (by omega) (by omega)
      have hyl : y.length ≤ 2000000 := by omega
      walk_at "z"
      refine lread_cl y1 hyl fun as => ?_
      walk_at "z"
      refine for_r0 (fun j s => ∃ (x7 x9 x10 : Option D), s = [some (.list (ns.map .int)), some e, some (.list (rows.map .tuple)), some (.list (rows.map .tuple)), some (.str tx), some (.int c), some (.str y), x7, some (((readD y).map .list).getD .none), x9, x10]) ⟨_, _, _, rfl⟩ ?_ ?_
      · rintro j _ hj ⟨x7, x9, x10, rfl⟩
        walk_at "z"
        refine told_cl y1 hyl (fun t as ht => ?_) fun as ht => ?_
        · rw [ht]
          have hus : shp 2 (.list t) = true := read_shp ht
          rw [show ((some t).map PyData.list).getD .none = .list t from rfl]
          walk_at "z"
          refine ⟨by decide +kernel, ?_⟩
          refine so_ne_s (n := 2) hus ?_
          walk_at "z"
          exact ⟨decide_eq_true (Nat.lt_of_le_of_lt (show t.length ≤ 2000001 by have := (readD_is ht).2; omega) (by decide)), _, _, _, rfl⟩
        · rw [ht]
          rw [show ((none : Option (List D)).map PyData.list).getD .none = .none from rfl]
          walk_at "z"
          exact ⟨by decide +kernel, _, _, _, rfl⟩
      · rintro _ ⟨x7, x9, x10, rfl⟩
        exact ⟨_, _, _, _, _, _, _, rfl⟩
  · rintro _ ⟨e, x5, x6, x7, x8, x9, x10, rfl⟩
    walk_at "z"
    refine ⟨fits_of (by have h2 : ("\n" : Str).length = 1 := rfl; omega), ?_⟩
    have hb : ∀ d ∈ [PyData.str (tx ++ "\n"), PyData.str "x", PyData.str "put"], ∃ x, d = .str x ∧ layS x = true ∧ x.length ≤ 2000000 ∧ readD x = none := fun d hd => by
      simp only [List.mem_cons, List.not_mem_nil, or_false] at hd
      rcases hd with rfl | rfl | rfl
      · exact ⟨_, rfl, lay_app hx2 (by decide +kernel), by rw [len_app]; have h2 : ("\n" : Str).length = 1 := rfl; omega, no_tail⟩
      · exact ⟨_, rfl, by decide +kernel, by decide +kernel, no_x⟩
      · exact ⟨_, rfl, by decide +kernel, by decide +kernel, no_put⟩
    refine for_it (fun i s => ∃ (x5 x6 x7 x8 x9 x10 : Option D), s = [some (.list (ns.map .int)), some e, some (.list (rows.map .tuple)), some (.list (rows.map .tuple)), some (.str tx), x5, x6, x7, x8, x9, x10]) ⟨_, _, _, _, _, _, rfl⟩ ?_ ?_
    · rintro i d _ hd ⟨x5, x6, x7, x8, x9, x10, rfl⟩
      obtain ⟨x, rfl, x1, x2, xn⟩ := hb d (List.mem_of_getElem? hd)
      walk_at "z"
      refine told_cl x1 x2 (fun t as ht => ?_) fun as ht => ?_
      · rw [xn] at ht; cases ht
      · walk_at "z"
        refine so_ne_s (n := 1) (by decide +kernel) ?_
        walk_at "z"
        exact ⟨_, _, _, _, _, _, rfl⟩
    · rintro _ ⟨x5, x6, x7, x8, x9, x10, rfl⟩
      walk_at "z"
set_option Elab.async false
set_option linter.all false
set_option maxRecDepth 100000
set_option maxHeartbeats 1000000
def d_law_deck : He.DefD := ⟨("_law_deck", none), "_law_deck", "_law_deck", defArgs s_law_deck, defBody s_law_deck, defScope s_law_deck, [], []⟩
def d_law_pick : He.DefD := ⟨("_law_pick", none), "_law_pick", "_law_pick", defArgs s_law_pick, defBody s_law_pick, defScope s_law_pick, [], []⟩
def d_law_great : He.DefD := ⟨("_law_great", none), "_law_great", "_law_great", defArgs s_law_great, defBody s_law_great, defScope s_law_great, [], []⟩
def d_law_deeds : He.DefD := ⟨("_law_deeds", none), "_law_deeds", "_law_deeds", defArgs s_law_deeds, defBody s_law_deeds, defScope s_law_deeds, [], []⟩
def d_word_of : He.DefD := ⟨("word_of", none), "word_of", "word_of", defArgs s_word_of, defBody s_word_of, defScope s_word_of, [], []⟩
def d_show_deeds : He.DefD := ⟨("show_deeds", none), "show_deeds", "show_deeds", defArgs s_show_deeds, defBody s_show_deeds, defScope s_show_deeds, [], []⟩
def d_law_number : He.DefD := ⟨("_law_number", none), "_law_number", "_law_number", defArgs s_law_number, defBody s_law_number, defScope s_law_number, [], []⟩
def d_law_read_row : He.DefD := ⟨("_law_read_row", none), "_law_read_row", "_law_read_row", defArgs s_law_read_row, defBody s_law_read_row, defScope s_law_read_row, [], []⟩
def d_law_read : He.DefD := ⟨("_law_read", none), "_law_read", "_law_read", defArgs s_law_read, defBody s_law_read, defScope s_law_read, [], []⟩
def d_law_text : He.DefD := ⟨("_law_text", none), "_law_text", "_law_text", defArgs s_law_text, defBody s_law_text, defScope s_law_text, [], []⟩
def d_law_signs : He.DefD := ⟨("_law_signs", none), "_law_signs", "_law_signs", defArgs s_law_signs, defBody s_law_signs, defScope s_law_signs, [], []⟩
def d_law_sign_bent : He.DefD := ⟨("_law_sign_bent", none), "_law_sign_bent", "_law_sign_bent", defArgs s_law_sign_bent, defBody s_law_sign_bent, defScope s_law_sign_bent, [], []⟩
def d_law_list_bent : He.DefD := ⟨("_law_list_bent", none), "_law_list_bent", "_law_list_bent", defArgs s_law_list_bent, defBody s_law_list_bent, defScope s_law_list_bent, [], []⟩
def d_law_bent : He.DefD := ⟨("_law_bent", none), "_law_bent", "_law_bent", defArgs s_law_bent, defBody s_law_bent, defScope s_law_bent, [], []⟩
def d_number_of : He.DefD := ⟨("number_of", none), "number_of", "number_of", defArgs s_number_of, defBody s_number_of, defScope s_number_of, [], []⟩
def d_read_deed : He.DefD := ⟨("read_deed", none), "read_deed", "read_deed", defArgs s_read_deed, defBody s_read_deed, defScope s_read_deed, [], []⟩
def d_read_deeds : He.DefD := ⟨("read_deeds", none), "read_deeds", "read_deeds", defArgs s_read_deeds, defBody s_read_deeds, defScope s_read_deeds, [], []⟩
def d_law_name_of : He.DefD := ⟨("_law_name_of", none), "_law_name_of", "_law_name_of", defArgs s_law_name_of, defBody s_law_name_of, defScope s_law_name_of, [], []⟩
def d_law_told : He.DefD := ⟨("_law_told", none), "_law_told", "_law_told", defArgs s_law_told, defBody s_law_told, defScope s_law_told, [], []⟩
def d_law : He.DefD := ⟨("law", none), "law", "law", defArgs s_law, defBody s_law, defScope s_law, [], []⟩
def fn : List He.DefD := [d_law_deck, d_law_pick, d_law_great, d_law_deeds, d_word_of, d_show_deeds, d_law_number, d_law_read_row, d_law_read, d_law_text, d_law_signs, d_law_sign_bent, d_law_list_bent, d_law_bent, d_number_of, d_read_deed, d_read_deeds, d_law_name_of, d_law_told, d_law]
def ex (K : PySem.W.Frag) : Bool := ZH.extB K (He.ga K "NoText") && (decide (PySem.W.kitOne K (.ref (He.ga K "NoText")) (.ref (He.ga K "NoCell")) = some false) && (decide (PySem.W.kitOne K (.ref (He.ga K "NoText")) (.ref (He.ga K "NoDeed")) = some false) && (decide (PySem.W.kitOne K (.ref (He.ga K "NoText")) (.ref (He.ga K "NoFigure")) = some false) && (decide (PySem.W.kitOne K (.ref (He.ga K "NoText")) (.ref (He.ga K "NoLooks")) = some false) && (decide (PySem.W.kitOne K (.ref (He.ga K "NoText")) (.ref (He.ga K "NoMore")) = some false) && (decide (PySem.W.kitOne K (.ref (He.ga K "NoText")) (.ref (He.ga K "NoRoom")) = some false) && (decide (PySem.W.kitOne K (.ref (He.ga K "NoText")) (.ref (He.ga K "NoRow")) = some false) && (decide (PySem.W.kitOne K (.ref (He.ga K "NoText")) (.ref (He.ga K "NoTable")) = some false) && (decide (PySem.W.kitOne K (.ref (He.ga K "NoText")) (.ref (He.ga K "NoText")) = some true) && (decide (PySem.W.kitOne K (.ref (He.ga K "NoText")) (.ref (He.ga K "NoWork")) = some false) && (decide (PySem.W.kitOne K (.ref (He.ga K "NoText")) (.ref (He.ga K "Spoilt")) = some false) && (decide (PySem.W.kitOne K (.ref (He.ga K "NoText")) (.type "ValueError") = some true) && (decide (PySem.W.exmOne K (.ref (He.ga K "NoText")) (.ref (He.ga K "SlackError")) = some true) && (true))))))))))))))
def fa : List He.Fa := [.glo "_law_deck", .glo "_law_pick", .glo "_law_great", .glo "_law_deeds", .glo "word_of", .glo "show_deeds", .glo "_law_number", .glo "_law_read_row", .glo "_law_read", .glo "_law_text", .glo "_law_signs", .glo "_law_sign_bent", .glo "_law_list_bent", .glo "_law_bent", .glo "number_of", .glo "read_deed", .glo "read_deeds", .glo "_law_name_of", .glo "_law_told", .glo "law", .free "ValueError", .free "int", .free "isinstance", .free "len", .free "list", .free "range", .free "str", .free "tuple", .free "zip", .str "DIGITS" "0123456789", .glo "FORMS", .glo "NoCell", .glo "NoDeed", .glo "NoFigure", .glo "NoLooks", .glo "NoMore", .glo "NoRoom", .glo "NoRow", .glo "NoTable", .glo "NoText", .glo "NoWork", .glo "SlackError", .glo "Spoilt", .exc "NoText"]
abbrev R : PySem.W.OpenRow := PySem.W.OpenLaw.row PySem.Challenge.rw_slackfigures_k46_whole_texts_of_deeds
def tx : List TabX := [("FORMS", [("begin", 3), ("rows", 3), ("step", 1), ("put", 3)])]
abbrev hk : PySem.W.Hook := hookX 4 fa fn ex tx
def ob (s : PySem.W.SharedT) : AlX := obsX 4 fa fn ex tx (HandSHeadRun.getT s)
theorem ob_eq (s : PySem.W.SharedT) : ob s = hk.obs s.abs := obsX_eq (HandSHeadRun.getT_eq s)
def loose : List Str := (["SlackError", "NoFigure", "NoTable", "NoLooks", "NoRoom", "Spoilt", "NoText", "NoRow", "NoMore", "NoWork", "NoCell", "NoDeed", "DIGITS", "number_of", "FORMS", "word_of", "show_deeds", "read_deed", "read_deeds", "_law_deck", "_law_pick", "_law_great", "_law_name_of", "_law_signs", "_law_sign_bent"] : List Str) ++ (["_law_list_bent", "_law_bent", "_law_number", "_law_deeds", "_law_text", "_law_read_row", "_law_read", "_law_told"] : List Str)
theorem run_false (w : World) : HandSHeadRun.RunEq R (PySem.W.view R.prog [37]) hk ob 7000 loose (w.withFollow "special-get-raises" false) := by
  intro os
  kernel_rfl
theorem run_true (w : World) : HandSHeadRun.RunEq R (PySem.W.view R.prog [37]) hk ob 7000 loose (w.withFollow "special-get-raises" true) := by
  intro os
  kernel_rfl
theorem run (w : World) : HandSHeadRun.RunEq R (PySem.W.view R.prog [37]) hk ob 7000 loose w := PySem.W.byRow2 "special-get-raises" run_false run_true w
theorem facts {P : Program} {w : World} {K : PySem.W.Frag} {h : Heap} {mg : Str → Option Value} {f : Addr} (X : K.In h) (G : h.Ns mainGlobals mg) (hfa : mg ("law" : Str) = some (.ref f)) (c : He.SaysD fa fn K) (cx : ex K = true) (ct : tabsX tx K = litsX tx w) :
    ∃ fd : FuncData, (∀ (s : Shared) (v : Value), BindsTo s fd ⟨[v], []⟩ [("script", v)]) ∧ ∀ base : Heap, K.In base → base.Ns mainGlobals mg → FnOk P w K mg base CX0 5 f fd ["script"] (spD K mg F_law [.sh] .sh) := by
  obtain ⟨fd_law_deck, F_law_deck'⟩ := c.def_ 0 (d := d_law_deck) rfl
  obtain ⟨fd_law_pick, F_law_pick'⟩ := c.def_ 1 (d := d_law_pick) rfl
  obtain ⟨fd_law_great, F_law_great'⟩ := c.def_ 2 (d := d_law_great) rfl
  obtain ⟨fd_law_deeds, F_law_deeds'⟩ := c.def_ 3 (d := d_law_deeds) rfl
  obtain ⟨fd_word_of, F_word_of'⟩ := c.def_ 4 (d := d_word_of) rfl
  obtain ⟨fd_show_deeds, F_show_deeds'⟩ := c.def_ 5 (d := d_show_deeds) rfl
  obtain ⟨fd_law_number, F_law_number'⟩ := c.def_ 6 (d := d_law_number) rfl
  obtain ⟨fd_law_read_row, F_law_read_row'⟩ := c.def_ 7 (d := d_law_read_row) rfl
  obtain ⟨fd_law_read, F_law_read'⟩ := c.def_ 8 (d := d_law_read) rfl
  obtain ⟨fd_law_text, F_law_text'⟩ := c.def_ 9 (d := d_law_text) rfl
  obtain ⟨fd_law_signs, F_law_signs'⟩ := c.def_ 10 (d := d_law_signs) rfl
  obtain ⟨fd_law_sign_bent, F_law_sign_bent'⟩ := c.def_ 11 (d := d_law_sign_bent) rfl
  obtain ⟨fd_law_list_bent, F_law_list_bent'⟩ := c.def_ 12 (d := d_law_list_bent) rfl
  obtain ⟨fd_law_bent, F_law_bent'⟩ := c.def_ 13 (d := d_law_bent) rfl
  obtain ⟨fd_number_of, F_number_of'⟩ := c.def_ 14 (d := d_number_of) rfl
  obtain ⟨fd_read_deed, F_read_deed'⟩ := c.def_ 15 (d := d_read_deed) rfl
  obtain ⟨fd_read_deeds, F_read_deeds'⟩ := c.def_ 16 (d := d_read_deeds) rfl
  obtain ⟨fd_law_name_of, F_law_name_of'⟩ := c.def_ 17 (d := d_law_name_of) rfl
  obtain ⟨fd_law_told, F_law_told'⟩ := c.def_ 18 (d := d_law_told) rfl
  obtain ⟨fd_law, F_law'⟩ := c.def_ 19 (d := d_law) rfl
  have hB : ∀ x ∈ bts, mg x = none := by
    intro x hx
    simp only [bts, List.mem_cons, List.not_mem_nil, or_false] at hx
    rcases hx with rfl | rfl | rfl | rfl | rfl | rfl | rfl | rfl | rfl
    · exact He.free_ok X G (c.fact 20 (f := .free "ValueError") rfl)
    · exact He.free_ok X G (c.fact 21 (f := .free "int") rfl)
    · exact He.free_ok X G (c.fact 22 (f := .free "isinstance") rfl)
    · exact He.free_ok X G (c.fact 23 (f := .free "len") rfl)
    · exact He.free_ok X G (c.fact 24 (f := .free "list") rfl)
    · exact He.free_ok X G (c.fact 25 (f := .free "range") rfl)
    · exact He.free_ok X G (c.fact 26 (f := .free "str") rfl)
    · exact He.free_ok X G (c.fact 27 (f := .free "tuple") rfl)
    · exact He.free_ok X G (c.fact 28 (f := .free "zip") rfl)
  obtain ⟨tk_DIGITS, gc_DIGITS⟩ := He.str_ok X G (c.fact 29 (f := .str "DIGITS" "0123456789") rfl)
  unfold ex at cx
  simp only [Bool.and_eq_true] at cx
  obtain ⟨x_ext_NoText, x_kit_NoText_NoCell, x_kit_NoText_NoDeed, x_kit_NoText_NoFigure, x_kit_NoText_NoLooks, x_kit_NoText_NoMore, x_kit_NoText_NoRoom, x_kit_NoText_NoRow, x_kit_NoText_NoTable, x_kit_NoText_NoText, x_kit_NoText_NoWork, x_kit_NoText_Spoilt, x_kit_NoText_ValueError, x_exm_NoText_SlackError, _⟩ := cx
  have gd_FORMS := He.glo_ok X G (c.fact 30 (f := .glo "FORMS") rfl)
  have kd_FORMS : KTxt K w (He.ga K "FORMS") [("begin", 3), ("rows", 3), ("step", 1), ("put", 3)] := tab_at ct 0 (t := ("FORMS", [("begin", 3), ("rows", 3), ("step", 1), ("put", 3)])) rfl (by decide)
  have gx_NoCell := He.glo_ok X G (c.fact 31 (f := .glo "NoCell") rfl)
  have gx_NoDeed := He.glo_ok X G (c.fact 32 (f := .glo "NoDeed") rfl)
  have gx_NoFigure := He.glo_ok X G (c.fact 33 (f := .glo "NoFigure") rfl)
  have gx_NoLooks := He.glo_ok X G (c.fact 34 (f := .glo "NoLooks") rfl)
  have gx_NoMore := He.glo_ok X G (c.fact 35 (f := .glo "NoMore") rfl)
  have gx_NoRoom := He.glo_ok X G (c.fact 36 (f := .glo "NoRoom") rfl)
  have gx_NoRow := He.glo_ok X G (c.fact 37 (f := .glo "NoRow") rfl)
  have gx_NoTable := He.glo_ok X G (c.fact 38 (f := .glo "NoTable") rfl)
  have gx_NoText := He.glo_ok X G (c.fact 39 (f := .glo "NoText") rfl)
  have gx_NoWork := He.glo_ok X G (c.fact 40 (f := .glo "NoWork") rfl)
  have gx_SlackError := He.glo_ok X G (c.fact 41 (f := .glo "SlackError") rfl)
  have gx_Spoilt := He.glo_ok X G (c.fact 42 (f := .glo "Spoilt") rfl)
  obtain ⟨q1_NoText, q2_NoText, q3_NoText, q4_NoText⟩ := He.exc_ok (c.fact 43 (f := .exc "NoText") rfl)
  have exc_NoText : ExC K mg "NoText" (He.ga K "NoText") := ⟨gx_NoText, q1_NoText, q2_NoText, q3_NoText, q4_NoText⟩
  have tb_NoCell : ∀ n b, tbl_NoCell n = some b → ∃ D, mg n = some (.ref D) ∧ ZH.ExT K D ∧ PySem.W.kitOne K (.ref D) (.ref (He.ga K "NoCell")) = some b := by
    unfold tbl_NoCell
    exact tbl_row ⟨_, gx_NoText, ZH.extB_ok x_ext_NoText, of_decide_eq_true x_kit_NoText_NoCell⟩ (tbl_nil)
  have tb_NoDeed : ∀ n b, tbl_NoDeed n = some b → ∃ D, mg n = some (.ref D) ∧ ZH.ExT K D ∧ PySem.W.kitOne K (.ref D) (.ref (He.ga K "NoDeed")) = some b := by
    unfold tbl_NoDeed
    exact tbl_row ⟨_, gx_NoText, ZH.extB_ok x_ext_NoText, of_decide_eq_true x_kit_NoText_NoDeed⟩ (tbl_nil)
  have tb_NoFigure : ∀ n b, tbl_NoFigure n = some b → ∃ D, mg n = some (.ref D) ∧ ZH.ExT K D ∧ PySem.W.kitOne K (.ref D) (.ref (He.ga K "NoFigure")) = some b := by
    unfold tbl_NoFigure
    exact tbl_row ⟨_, gx_NoText, ZH.extB_ok x_ext_NoText, of_decide_eq_true x_kit_NoText_NoFigure⟩ (tbl_nil)
  have tb_NoLooks : ∀ n b, tbl_NoLooks n = some b → ∃ D, mg n = some (.ref D) ∧ ZH.ExT K D ∧ PySem.W.kitOne K (.ref D) (.ref (He.ga K "NoLooks")) = some b := by
    unfold tbl_NoLooks
    exact tbl_row ⟨_, gx_NoText, ZH.extB_ok x_ext_NoText, of_decide_eq_true x_kit_NoText_NoLooks⟩ (tbl_nil)
  have tb_NoMore : ∀ n b, tbl_NoMore n = some b → ∃ D, mg n = some (.ref D) ∧ ZH.ExT K D ∧ PySem.W.kitOne K (.ref D) (.ref (He.ga K "NoMore")) = some b := by
    unfold tbl_NoMore
    exact tbl_row ⟨_, gx_NoText, ZH.extB_ok x_ext_NoText, of_decide_eq_true x_kit_NoText_NoMore⟩ (tbl_nil)
  have tb_NoRoom : ∀ n b, tbl_NoRoom n = some b → ∃ D, mg n = some (.ref D) ∧ ZH.ExT K D ∧ PySem.W.kitOne K (.ref D) (.ref (He.ga K "NoRoom")) = some b := by
    unfold tbl_NoRoom
    exact tbl_row ⟨_, gx_NoText, ZH.extB_ok x_ext_NoText, of_decide_eq_true x_kit_NoText_NoRoom⟩ (tbl_nil)
  have tb_NoRow : ∀ n b, tbl_NoRow n = some b → ∃ D, mg n = some (.ref D) ∧ ZH.ExT K D ∧ PySem.W.kitOne K (.ref D) (.ref (He.ga K "NoRow")) = some b := by
    unfold tbl_NoRow
    exact tbl_row ⟨_, gx_NoText, ZH.extB_ok x_ext_NoText, of_decide_eq_true x_kit_NoText_NoRow⟩ (tbl_nil)
  have tb_NoTable : ∀ n b, tbl_NoTable n = some b → ∃ D, mg n = some (.ref D) ∧ ZH.ExT K D ∧ PySem.W.kitOne K (.ref D) (.ref (He.ga K "NoTable")) = some b := by
    unfold tbl_NoTable
    exact tbl_row ⟨_, gx_NoText, ZH.extB_ok x_ext_NoText, of_decide_eq_true x_kit_NoText_NoTable⟩ (tbl_nil)
  have tb_NoText : ∀ n b, tbl_NoText n = some b → ∃ D, mg n = some (.ref D) ∧ ZH.ExT K D ∧ PySem.W.kitOne K (.ref D) (.ref (He.ga K "NoText")) = some b := by
    unfold tbl_NoText
    exact tbl_row ⟨_, gx_NoText, ZH.extB_ok x_ext_NoText, of_decide_eq_true x_kit_NoText_NoText⟩ (tbl_nil)
  have tb_NoWork : ∀ n b, tbl_NoWork n = some b → ∃ D, mg n = some (.ref D) ∧ ZH.ExT K D ∧ PySem.W.kitOne K (.ref D) (.ref (He.ga K "NoWork")) = some b := by
    unfold tbl_NoWork
    exact tbl_row ⟨_, gx_NoText, ZH.extB_ok x_ext_NoText, of_decide_eq_true x_kit_NoText_NoWork⟩ (tbl_nil)
  have tb_Spoilt : ∀ n b, tbl_Spoilt n = some b → ∃ D, mg n = some (.ref D) ∧ ZH.ExT K D ∧ PySem.W.kitOne K (.ref D) (.ref (He.ga K "Spoilt")) = some b := by
    unfold tbl_Spoilt
    exact tbl_row ⟨_, gx_NoText, ZH.extB_ok x_ext_NoText, of_decide_eq_true x_kit_NoText_Spoilt⟩ (tbl_nil)
  have tb_ValueError : ∀ n b, tbl_ValueError n = some b → ∃ D, mg n = some (.ref D) ∧ ZH.ExT K D ∧ PySem.W.kitOne K (.ref D) (.type "ValueError") = some b := by
    unfold tbl_ValueError
    exact tbl_row ⟨_, gx_NoText, ZH.extB_ok x_ext_NoText, of_decide_eq_true x_kit_NoText_ValueError⟩ (tbl_nil)
  have sb_subc_SlackError : ∀ n v, subc_SlackError n = some v → ∀ cls, mg n = some cls → PySem.W.exmOne K cls (.ref (He.ga K "SlackError")) = some v := by
    unfold subc_SlackError
    exact tbl_row (sub_row gx_NoText (of_decide_eq_true x_exm_NoText_SlackError)) (tbl_nil)
  have k_law_deck : ∀ base : Heap, Fk P w K mg base "_law_deck" 1 ["cell", "turn"] (spD K mg F_law_deck [.sh, .sh] (.ls .sh)) := fun base => ⟨_, _, ok_law_deck F_law_deck' hB, He.glo_ok X G (c.fact 0 (f := .glo "_law_deck") rfl), FunD.kp F_law_deck', FunD.bindsN F_law_deck' fun _ _ _ _ _ _ us hl => match us, hl with | [_, _], _ => rfl⟩
  have k_law_pick : ∀ base : Heap, Fk P w K mg base "_law_pick" 1 ["deck", "many"] (spD K mg F_law_pick [(.pm (.ls .sh)), .sh] .sh) := fun base => ⟨_, _, ok_law_pick F_law_pick' hB, He.glo_ok X G (c.fact 1 (f := .glo "_law_pick") rfl), FunD.kp F_law_pick', FunD.bindsN F_law_pick' fun _ _ _ _ _ _ us hl => match us, hl with | [_, _], _ => rfl⟩
  have k_law_great : ∀ base : Heap, Fk P w K mg base "_law_great" 2 ["deck", "figures"] (spD K mg F_law_great [(.pm (.ls .sh)), .sh] .sh) := fun base => ⟨_, _, ok_law_great F_law_great' hB (k_law_pick base), He.glo_ok X G (c.fact 2 (f := .glo "_law_great") rfl), FunD.kp F_law_great', FunD.bindsN F_law_great' fun _ _ _ _ _ _ us hl => match us, hl with | [_, _], _ => rfl⟩
  have k_law_deeds : ∀ base : Heap, Fk P w K mg base "_law_deeds" 3 ["deck"] (spD K mg F_law_deeds [(.pm (.ls .sh))] .sh) := fun base => ⟨_, _, ok_law_deeds F_law_deeds' hB (k_law_pick base) (k_law_great base), He.glo_ok X G (c.fact 3 (f := .glo "_law_deeds") rfl), FunD.kp F_law_deeds', FunD.bindsN F_law_deeds' fun _ _ _ _ _ _ us hl => match us, hl with | [_], _ => rfl⟩
  have k_word_of : ∀ base : Heap, Fk P w K mg base "word_of" 1 ["part"] (spD K mg F_word_of [.sh] .sh) := fun base => ⟨_, _, ok_word_of F_word_of' hB, He.glo_ok X G (c.fact 4 (f := .glo "word_of") rfl), FunD.kp F_word_of', FunD.bindsN F_word_of' fun _ _ _ _ _ _ us hl => match us, hl with | [_], _ => rfl⟩
  have k_show_deeds : ∀ base : Heap, Fk P w K mg base "show_deeds" 2 ["deeds"] (spD K mg F_show_deeds [.sh] .sh) := fun base => ⟨_, _, ok_show_deeds F_show_deeds' hB (k_word_of base), He.glo_ok X G (c.fact 5 (f := .glo "show_deeds") rfl), FunD.kp F_show_deeds', FunD.bindsN F_show_deeds' fun _ _ _ _ _ _ us hl => match us, hl with | [_], _ => rfl⟩
  have k_law_number : ∀ base : Heap, Fk P w K mg base "_law_number" 1 ["word"] (spD K mg F_law_number [.sh] .sh) := fun base => ⟨_, _, ok_law_number F_law_number' hB, He.glo_ok X G (c.fact 6 (f := .glo "_law_number") rfl), FunD.kp F_law_number', FunD.bindsN F_law_number' fun _ _ _ _ _ _ us hl => match us, hl with | [_], _ => rfl⟩
  have k_law_read_row : ∀ base : Heap, Fk P w K mg base "_law_read_row" 2 ["row"] (spD K mg F_law_read_row [.sh] .sh) := fun base => ⟨_, _, ok_law_read_row F_law_read_row' hB (k_law_number base), He.glo_ok X G (c.fact 7 (f := .glo "_law_read_row") rfl), FunD.kp F_law_read_row', FunD.bindsN F_law_read_row' fun _ _ _ _ _ _ us hl => match us, hl with | [_], _ => rfl⟩
  have k_law_read : ∀ base : Heap, Fk P w K mg base "_law_read" 3 ["text"] (spD K mg F_law_read [.sh] .sh) := fun base => ⟨_, _, ok_law_read F_law_read' hB (k_law_read_row base), He.glo_ok X G (c.fact 8 (f := .glo "_law_read") rfl), FunD.kp F_law_read', FunD.bindsN F_law_read' fun _ _ _ _ _ _ us hl => match us, hl with | [_], _ => rfl⟩
  have k_law_text : ∀ base : Heap, Fk P w K mg base "_law_text" 1 ["deeds"] (spD K mg F_law_text [.sh] .sh) := fun base => ⟨_, _, ok_law_text F_law_text' hB, He.glo_ok X G (c.fact 9 (f := .glo "_law_text") rfl), FunD.kp F_law_text', FunD.bindsN F_law_text' fun _ _ _ _ _ _ us hl => match us, hl with | [_], _ => rfl⟩
  have k_law_signs : ∀ base : Heap, Fk P w K mg base "_law_signs" 1 [] (spD K mg F_law_signs [] .sh) := fun base => ⟨_, _, ok_law_signs F_law_signs' hB, He.glo_ok X G (c.fact 10 (f := .glo "_law_signs") rfl), FunD.kp F_law_signs', FunD.bindsN F_law_signs' fun _ _ _ _ _ _ us hl => match us, hl with | [], _ => rfl⟩
  have k_law_sign_bent : ∀ base : Heap, Fk P w K mg base "_law_sign_bent" 2 ["deck", "text"] (spD K mg F_law_sign_bent [(.pm (.ls .sh)), .sh] .sh) := fun base => ⟨_, _, ok_law_sign_bent F_law_sign_bent' hB (k_law_signs base) (k_law_pick base), He.glo_ok X G (c.fact 11 (f := .glo "_law_sign_bent") rfl), FunD.kp F_law_sign_bent', FunD.bindsN F_law_sign_bent' fun _ _ _ _ _ _ us hl => match us, hl with | [_, _], _ => rfl⟩
  have k_law_list_bent : ∀ base : Heap, Fk P w K mg base "_law_list_bent" 2 ["deck", "some"] (spD K mg F_law_list_bent [(.pm (.ls .sh)), .sh] .sh) := fun base => ⟨_, _, ok_law_list_bent F_law_list_bent' hB (k_law_pick base), He.glo_ok X G (c.fact 12 (f := .glo "_law_list_bent") rfl), FunD.kp F_law_list_bent', FunD.bindsN F_law_list_bent' fun _ _ _ _ _ _ us hl => match us, hl with | [_, _], _ => rfl⟩
  have k_law_bent : ∀ base : Heap, Fk P w K mg base "_law_bent" 3 ["deck", "text", "joints"] (spD K mg F_law_bent [(.pm (.ls .sh)), .sh, .sh] .sh) := fun base => ⟨_, _, ok_law_bent F_law_bent' hB (k_law_pick base) (k_law_sign_bent base) (k_law_list_bent base), He.glo_ok X G (c.fact 13 (f := .glo "_law_bent") rfl), FunD.kp F_law_bent', FunD.bindsN F_law_bent' fun _ _ _ _ _ _ us hl => match us, hl with | [_, _, _], _ => rfl⟩
  have k_number_of : ∀ base : Heap, Fk P w K mg base "number_of" 1 ["word"] (spD K mg F_number_of [.sh] .sh) := fun base => ⟨_, _, ok_number_of F_number_of' hB gc_DIGITS, He.glo_ok X G (c.fact 14 (f := .glo "number_of") rfl), FunD.kp F_number_of', FunD.bindsN F_number_of' fun _ _ _ _ _ _ us hl => match us, hl with | [_], _ => rfl⟩
  have k_read_deed : ∀ base : Heap, FkE P w K mg base "read_deed" 2 ["row"] (spD K mg F_read_deed [.sh] .sh) := fun base => ⟨_, _, ok_read_deed F_read_deed' hB gd_FORMS kd_FORMS exc_NoText (k_number_of base), He.glo_ok X G (c.fact 15 (f := .glo "read_deed") rfl), FunD.kp F_read_deed', FunD.bindsN F_read_deed' fun _ _ _ _ _ _ us hl => match us, hl with | [_], _ => rfl⟩
  have k_read_deeds : ∀ base : Heap, FkE P w K mg base "read_deeds" 3 ["text"] (spD K mg F_read_deeds [.sh] (.ls .sh)) := fun base => ⟨_, _, ok_read_deeds F_read_deeds' hB (k_read_deed base), He.glo_ok X G (c.fact 16 (f := .glo "read_deeds") rfl), FunD.kp F_read_deeds', FunD.bindsN F_read_deeds' fun _ _ _ _ _ _ us hl => match us, hl with | [_], _ => rfl⟩
  have k_law_name_of : ∀ base : Heap, FkN P w K mg base "_law_name_of" "e" 1 (spNm K mg nmT) := fun base => ⟨_, _, ok_law_name_of F_law_name_of' hB gx_NoCell gx_NoDeed gx_NoFigure gx_NoLooks gx_NoMore gx_NoRoom gx_NoRow gx_NoTable gx_NoText gx_NoWork gx_Spoilt tb_NoCell tb_NoDeed tb_NoFigure tb_NoLooks tb_NoMore tb_NoRoom tb_NoRow tb_NoTable tb_NoText tb_NoWork tb_Spoilt tb_ValueError, He.glo_ok X G (c.fact 17 (f := .glo "_law_name_of") rfl), FunD.kp F_law_name_of', FunD.bindsN F_law_name_of' fun _ _ _ _ _ _ us hl => match us, hl with | [_], _ => rfl⟩
  have k_law_told : ∀ base : Heap, Fk P w K mg base "_law_told" 4 ["text"] (spD K mg F_law_told [.sh] (tcs [(.op (.ls .sh)), .sh])) := fun base => ⟨_, _, ok_law_told F_law_told' hB gx_SlackError sb_subc_SlackError (k_read_deeds base) (k_law_name_of base), He.glo_ok X G (c.fact 18 (f := .glo "_law_told") rfl), FunD.kp F_law_told', FunD.bindsN F_law_told' fun _ _ _ _ _ _ us hl => match us, hl with | [_], _ => rfl⟩
  have e := hfa.symm.trans (He.glo_ok X G (c.fact 19 (f := .glo "law") rfl))
  cases e
  have b := FunD.bindsA (ps := ["script"]) F_law' fun _ _ _ _ _ _ us hl => match us, hl with | [_], _ => rfl
  exact ⟨fd_law, fun s v => b s [v] rfl, fun base _ _ => ok_law F_law' hB (k_law_deck base) (k_law_deeds base) (k_show_deeds base) (k_law_text base) (k_law_pick base) (k_law_bent base) (k_law_read base) (k_law_told base)⟩
end S
open PySem PySem.W PySem.Calls PyProof.Rows
set_option maxRecDepth 100000 in
set_option maxHeartbeats 0 in
theorem PySem.Challenge.cw_slackfigures_k46_whole_texts_of_deeds_holds : PySem.Challenge.rw_slackfigures_k46_whole_texts_of_deeds.Holds := by
  w_on; o_law
  refine HandSHeadRun.head_any (r := OpenLaw.row PySem.Challenge.rw_slackfigures_k46_whole_texts_of_deeds) (q := view (OpenLaw.row PySem.Challenge.rw_slackfigures_k46_whole_texts_of_deeds).prog [37]) (H := S.hk) (ob := S.ob) (M := 7000) (loose := S.loose) (d := HandSHeadRun.topDef (OpenLaw.row PySem.Challenge.rw_slackfigures_k46_whole_texts_of_deeds).prog 37) (kwd := []) S.ob_eq
    (by kernel_rfl) (fun s => by kernel_rfl) S.run (by kernel_rfl) (by kernel_rfl) (by kernel_rfl) (by rfl) (by first | assumption | decide +kernel) (by decide +kernel) ⟨rfl, rfl, rfl, rfl, rfl, by decide +kernel⟩ ?hw ?hc
  case hw => w_witness2
  case hc =>
    refine L2.walk_ofE (l := PySem.Challenge.rw_slackfigures_k46_whole_texts_of_deeds) (n := 63) (k := 5) (x := "script") (CX := L2.CX0) rfl (by decide) (by kernel_rfl) ⟨rfl, by decide, by decide⟩ ?F (fun _ _ _ _ z => z)
    intro w mg fa h Y G hmg0
    obtain ⟨K, KX, c, cx, ct⟩ := Y
    have hmg : mg ("law" : PySem.Str) = some (.ref fa) := by
      have e : (HandSHeadRun.topDef (OpenLaw.row PySem.Challenge.rw_slackfigures_k46_whole_texts_of_deeds).prog 37).name = ("law" : PySem.Str) := by kernel_rfl
      rw [← e]
      exact hmg0
    obtain ⟨fd, hb, hF⟩ := S.facts (P := (PySem.Challenge.rw_slackfigures_k46_whole_texts_of_deeds).prog) (w := w) KX G hmg c cx ct
    exact ⟨K, fd, Z.spD K mg S.F_law [.sh] .sh, KX, hb, fun H a ns hl _ hS => Z.law_sp S.law_true H a ns hl hS _, hF⟩
