import PyProof.Rows.All
import PyProof.Rules2
import PyProof.RulesTry
import PyProof.Boot
import PyProof.MakeMany
import PyProof.Rules3
import PyProof.SliceSyntax
import PyProof.SliceList
import PyProof.Cells
import PyProof.PassesOwn
import PyProof.CompFree
import PyProof.DefCall
import PyProof.DelItemList
import PyProof.DictKinds
import PyProof.DictRoads
import PyProof.DictCalls
import PyProof.DictTruth
import PyProof.DictStraight
import PyProof.DictIter
import PyProof.Rows.RowHeap
import PyProof.DictWalks
import PyProof.EqKinds
import PyProof.P3Eq
import PyProof.NeData
import PyProof.ExcBaseAll.Exception
import PyProof.StrOps
import PyProof.ForAppend
import PyProof.WalksMore
import PyProof.RangeFor
import PyProof.IsiHeapPairs
import PyProof.IsiPairs
import PyProof.Rows.Globals
import PyProof.Rows.Tup
import PyProof.Rows.TupSub
import PyProof.Rows.IntRules
import PyProof.Rows.DictMade
import PyProof.Rows.ListAppend
import PyProof.Rows.CellsFrame
import PyProof.RulesDel
import PyProof.Rows.Own
import PyProof.Rows.Exc
import PyProof.Rows.Catch
import PyProof.Rows.CatchOwn
import PyProof.Rows.Nodes
import PyProof.Rows.RuleB_floordiv
import PyProof.Rows.SeqSlice
import PyProof.Rows.StrTemp
import PyProof.Rows.RuleC_bool
import PyProof.Rows.Walk
import PyProof.RulesDelMore
import PyProof.Rows.SeqMore
import PyProof.Rows.SortWalk
import Wide.All
import OpenK.AllK
import Wide.FinOn
import KE.KEqDict
import Lean
import PySem.Challenge.RW_pd_principal_3_03
set_option Elab.async false
namespace Mine

inductive Ty where
  | var (n : Int)
  | int
  | node (m : Bool) (l r : Ty)
  deriving DecidableEq

abbrev Dc := List (Int × Ty)

def look (d : Dc) (k : Int) : Option Ty := (d.find? fun kv => kv.1 = k).map (·.2)

def putT (d : Dc) (k : Int) (v : Ty) : Dc :=
  if d.any (fun kv => kv.1 = k) then d.map (fun kv => if kv.1 = k then (kv.1, v) else kv) else d ++ [(k, v)]

def Ty.vars : Ty → List Int
  | .var n => [n]
  | .int => []
  | .node _ l r => l.vars ++ r.vars

def Ty.subst (d : Dc) : Ty → Ty
  | .var n => (look d n).getD (.var n)
  | .int => .int
  | .node m l r => .node m (l.subst d) (r.subst d)

def applyLoop (d : Dc) : Nat → Ty → Ty
  | 0, t => t
  | n + 1, t => if t.subst d = t then t.subst d else applyLoop d n (t.subst d)

def applyT (d : Dc) (t : Ty) : Ty := applyLoop d (d.length + 1) t

inductive Res where
  | ok (d : Dc)
  | clash
  | occurs
  | fuel
  deriving DecidableEq

/-- one turn of the work loop -/
inductive Turn where
  | go (work : List (Ty × Ty)) (out : Dc)
  | stop (r : Res)

def turn (x y : Ty) (work : List (Ty × Ty)) (out : Dc) : Turn :=
  if x = y then .go work out else
  match x, y with
  | .var v, y => if v ∈ y.vars then .stop .occurs else .go work (putT out v y)
  | x, .var v => if v ∈ x.vars then .stop .occurs else .go work (putT out v x)
  | .node m l r, .node m' l' r' => if m = m' then .go ((l, l') :: (r, r') :: work) out else .stop .clash
  | _, _ => .stop .clash

def unifyT : Nat → List (Ty × Ty) → Dc → Res
  | _, [], out => .ok out
  | 0, _ :: _, _ => .fuel
  | n + 1, p :: work, out =>
    match turn (applyT out p.1) (applyT out p.2) work out with
    | .go work' out' => unifyT n work' out'
    | .stop r => r

theorem unifyT_nil (n : Nat) (out : Dc) : unifyT n [] out = .ok out := by cases n <;> rfl

/-! apply -/
def iter (d : Dc) : Nat → Ty → Ty
  | 0, t => t
  | n + 1, t => iter d n (t.subst d)

theorem iter_fix {d : Dc} {t : Ty} (h : t.subst d = t) : ∀ n, iter d n t = t
  | 0 => rfl
  | n + 1 => by rw [iter, h]; exact iter_fix h n
theorem iter_add (d : Dc) (b : Nat) : ∀ (a : Nat) (t : Ty), iter d (a + b) t = iter d b (iter d a t)
  | 0, t => by rw [Nat.zero_add]; rfl
  | a + 1, t => by rw [Nat.succ_add]; exact iter_add d b a _
theorem iter_node (d : Dc) (m : Bool) : ∀ (n : Nat) (l r : Ty), iter d n (.node m l r) = .node m (iter d n l) (iter d n r)
  | 0, _, _ => rfl
  | n + 1, l, r => by show iter d n (.node m (l.subst d) (r.subst d)) = _; rw [iter_node d m n]; rfl
theorem iter_int (d : Dc) : ∀ n, iter d n .int = .int := iter_fix rfl

theorem applyLoop_of {d : Dc} : ∀ (N n : Nat) (t : Ty), n ≤ N → (iter d n t).subst d = iter d n t → applyLoop d N t = iter d n t
  | 0, n, t, h, _ => by
    have : n = 0 := by omega
    subst this; rfl
  | N + 1, n, t, h, hf => by
    unfold applyLoop
    by_cases hs : t.subst d = t
    · rw [if_pos hs, hs, iter_fix hs]
    · rw [if_neg hs]
      cases n with
      | zero => exact absurd hf hs
      | succ k => exact applyLoop_of N k _ (by omega) hf
theorem applyT_of {d : Dc} {n : Nat} {t t' : Ty} (hn : n ≤ d.length + 1) (h : iter d n t = t') (hf : t'.subst d = t') : applyT d t = t' := by
  subst h; exact applyLoop_of _ _ _ hn hf

/-! look, putT -/
theorem look_nil (k : Int) : look [] k = none := rfl
theorem look_cons (p : Int × Ty) (d : Dc) (k : Int) : look (p :: d) k = if p.1 = k then some p.2 else look d k := by
  unfold look
  rw [List.find?_cons]
  by_cases h : p.1 = k <;> simp [h]
theorem look_append (d e : Dc) (k : Int) : look (d ++ e) k = (look d k).or (look e k) := by
  unfold look
  rw [List.find?_append]
  cases List.find? (fun kv => decide (kv.1 = k)) d <;> simp
theorem look_none_iff (d : Dc) (k : Int) : look d k = none ↔ k ∉ d.map (·.1) := by
  unfold look
  simp only [Option.map_eq_none_iff, List.find?_eq_none, decide_eq_true_eq, List.mem_map, not_exists, not_and]
theorem any_iff_look (d : Dc) (k : Int) : d.any (fun kv => decide (kv.1 = k)) = (look d k).isSome := by
  induction d with
  | nil => rfl
  | cons p d ih => rw [List.any_cons, look_cons, ih]; by_cases h : p.1 = k <;> simp [h]
theorem putT_new {d : Dc} {k : Int} (h : look d k = none) (v : Ty) : putT d k v = d ++ [(k, v)] := by
  unfold putT
  rw [any_iff_look, h]; rfl

/-! forests -/
structure R (out : Dc) (L : Int → Int) : Prop where
  rank : ∃ rk : Int → Nat, ((∀ v, rk v ≤ out.length) ∧ ∀ v, look out v = none → rk v = 0) ∧ ∀ v T, look out v = some T → ∃ w, T = .var w ∧ 0 ≤ w ∧ w < 5 ∧ L w = L v ∧ rk w < rk v
  root : ∀ v, look out v = none → L v = v
  keys : ∀ k ∈ out.map (·.1), 0 ≤ k ∧ k < 5
  nodup : (out.map (·.1)).Nodup

theorem R.look_lead {out : Dc} {L : Int → Int} (h : R out L) (v : Int) : look out (L v) = none := by
  obtain ⟨rk, _, hk⟩ := h.rank
  have : ∀ n v, rk v < n → look out (L v) = none := by
    intro n
    induction n with
    | zero => intro v hv; omega
    | succ n ih =>
      intro v hv
      cases hl : look out v with
      | none => rw [h.root v hl]; exact hl
      | some T =>
        obtain ⟨w, _, _, _, e, hlt⟩ := hk v T hl
        rw [← e]; exact ih w (by omega)
  exact this _ v (Nat.lt_succ_self _)
theorem R.idem {out : Dc} {L : Int → Int} (h : R out L) (v : Int) : L (L v) = L v := h.root _ (h.look_lead v)
theorem R.range {out : Dc} {L : Int → Int} (h : R out L) {v : Int} (h0 : 0 ≤ v) (h5 : v < 5) : 0 ≤ L v ∧ L v < 5 := by
  obtain ⟨rk, _, hk⟩ := h.rank
  have : ∀ n v, rk v < n → 0 ≤ v → v < 5 → 0 ≤ L v ∧ L v < 5 := by
    intro n
    induction n with
    | zero => intro v hv; omega
    | succ n ih =>
      intro v hv a b
      cases hl : look out v with
      | none => rw [h.root v hl]; exact ⟨a, b⟩
      | some T =>
        obtain ⟨w, _, a', b', e, hlt⟩ := hk v T hl
        rw [← e]; exact ih w (by omega) a' b'
  exact this _ v (Nat.lt_succ_self _) h0 h5

def Ty.ren (L : Int → Int) : Ty → Ty
  | .var n => .var (L n)
  | .int => .int
  | .node m l r => .node m (l.ren L) (r.ren L)

theorem R.ren_fix {out : Dc} {L : Int → Int} (h : R out L) : ∀ t : Ty, (t.ren L).subst out = t.ren L
  | .var n => by show (look out (L n)).getD (.var (L n)) = _; rw [h.look_lead]; rfl
  | .int => rfl
  | .node m l r => by show Ty.node m _ _ = _; rw [h.ren_fix l, h.ren_fix r]; rfl
theorem R.iter {out : Dc} {L : Int → Int} (h : R out L) : ∀ t : Ty, Mine.iter out out.length t = t.ren L := by
  obtain ⟨rk, ⟨hle, -⟩, hk⟩ := h.rank
  have one : ∀ n v, rk v ≤ n → Mine.iter out n (.var v) = .var (L v) := by
    intro n
    induction n with
    | zero =>
      intro v hv
      cases hl : look out v with
      | none => rw [h.root v hl]; rfl
      | some T => obtain ⟨w, _, _, _, _, hlt⟩ := hk v T hl; omega
    | succ n ih =>
      intro v hv
      cases hl : look out v with
      | none =>
        have hf : (Ty.var v).subst out = .var v := by show (look out v).getD _ = _; rw [hl]; rfl
        rw [iter_fix hf, h.root v hl]
      | some T =>
        obtain ⟨w, rfl, _, _, e, hlt⟩ := hk v T hl
        have hs : (Ty.var v).subst out = .var w := by show (look out v).getD _ = _; rw [hl]; rfl
        rw [Mine.iter, hs, ih w (by omega), e]
  intro t
  induction t with
  | var v => exact one _ v (hle v)
  | int => exact iter_int _ _
  | node m l r ihl ihr => rw [iter_node, ihl, ihr]; rfl
theorem R.apply {out : Dc} {L : Int → Int} (h : R out L) (t : Ty) : applyT out t = t.ren L :=
  applyT_of (n := out.length) (by omega) (h.iter t) (h.ren_fix t)

/-- joining two leaders -/
def step (L : Int → Int) (p : Int × Int) : Int → Int := fun v => if L v = L p.1 then L p.2 else L v

theorem step_same {L : Int → Int} {p : Int × Int} (h : L p.1 = L p.2) : step L p = L := by
  funext v; unfold step; by_cases e : L v = L p.1
  · rw [if_pos e, e, h]
  · rw [if_neg e]

theorem R.join {out : Dc} {L : Int → Int} (h : R out L) {p q : Int} (hp : 0 ≤ p ∧ p < 5) (hq : 0 ≤ q ∧ q < 5) (hne : L p ≠ L q) : R (out ++ [(L p, .var (L q))]) (step L (p, q)) := by
  obtain ⟨rk, ⟨hle, h0⟩, hk⟩ := h.rank
  have hnone := h.look_lead p
  have hlk : ∀ v, look (out ++ [(L p, .var (L q))]) v = (look out v).or (if L p = v then some (.var (L q)) else none) := by
    intro v; rw [look_append, look_cons, look_nil]
  have hr := h.range hp.1 hp.2
  have hr' := h.range hq.1 hq.2
  refine ⟨⟨fun v => if L v = L p then rk v + 1 else rk v, ⟨fun v => ?_, fun v hv => ?_⟩, fun v T hv => ?_⟩, fun v hv => ?_, fun k hk' => ?_, ?_⟩
  · have h1 := hle v
    simp only [List.length_append, List.length_cons, List.length_nil]
    split <;> omega
  · rw [hlk] at hv
    obtain ⟨h1, h2⟩ := Option.or_eq_none_iff.mp hv
    have hv' : L v = v := h.root v h1
    have : ¬ L p = v := fun e => by rw [if_pos e] at h2; cases h2
    show (if L v = L p then rk v + 1 else rk v) = 0
    rw [if_neg (fun e => this (by rw [← e, hv'])), h0 v h1]
  · rw [hlk] at hv
    cases hl : look out v with
    | some T' =>
      rw [hl, Option.some_or] at hv
      cases hv
      obtain ⟨w, e1, e2, e3, e4, e5⟩ := hk v _ hl
      refine ⟨w, e1, e2, e3, ?_, ?_⟩
      · show step L (p, q) w = step L (p, q) v
        unfold step; rw [e4]
      · show (if L w = L p then rk w + 1 else rk w) < (if L v = L p then rk v + 1 else rk v)
        rw [e4]; split <;> omega
    | none =>
      rw [hl, Option.none_or] at hv
      by_cases e : L p = v
      · rw [if_pos e] at hv
        cases hv
        subst e
        refine ⟨L q, rfl, hr'.1, hr'.2, ?_, ?_⟩
        · show step L (p, q) (L q) = step L (p, q) (L p)
          unfold step
          simp [h.idem]
        · show (if L (L q) = L p then rk (L q) + 1 else rk (L q)) < (if L (L p) = L p then rk (L p) + 1 else rk (L p))
          rw [h.idem, h.idem, if_neg (Ne.symm hne), if_pos rfl, h0 _ (h.look_lead q)]; omega
      · rw [if_neg e] at hv; cases hv
  · rw [hlk] at hv
    obtain ⟨h1, h2⟩ := Option.or_eq_none_iff.mp hv
    have hv' : L v = v := h.root v h1
    have hnp : ¬ L p = v := fun e => by rw [if_pos e] at h2; cases h2
    unfold step
    show (if L v = L p then L q else L v) = v
    rw [hv', if_neg (fun e => hnp e.symm)]
  · rw [List.map_append, List.mem_append] at hk'
    rcases hk' with hk' | hk'
    · exact h.keys k hk'
    · simp only [List.map_cons, List.map_nil, List.mem_singleton] at hk'
      subst hk'; exact hr
  · rw [List.map_append, List.nodup_append]
    refine ⟨h.nodup, by simp, ?_⟩
    intro a ha b hb
    simp only [List.map_cons, List.map_nil, List.mem_singleton] at hb
    subst hb
    exact fun e => (look_none_iff out (L p)).mp hnone (e ▸ ha)

/-! skeletons -/
inductive Sk where
  | leaf (i : Nat)
  | node (m : Bool) (l r : Sk)

def Sk.fill (f : Nat → Int) : Sk → Ty
  | .leaf i => .var (f i)
  | .node m l r => .node m (l.fill f) (r.fill f)
def Sk.pairs (f g : Nat → Int) : Sk → List (Int × Int)
  | .leaf i => [(f i, g i)]
  | .node _ l r => l.pairs f g ++ r.pairs f g
def Sk.size : Sk → Nat
  | .leaf _ => 1
  | .node _ l r => l.size + r.size + 1
def Sk.All (P : Nat → Prop) : Sk → Prop
  | .leaf i => P i
  | .node _ l r => l.All P ∧ r.All P

theorem Sk.fill_ren (L : Int → Int) (f : Nat → Int) : ∀ S : Sk, (S.fill f).ren L = S.fill fun i => L (f i)
  | .leaf _ => rfl
  | .node m l r => by show Ty.node m _ _ = _; rw [l.fill_ren, r.fill_ren]; rfl
theorem Sk.pairs_map (L : Int → Int) (f g : Nat → Int) : ∀ S : Sk, S.pairs (fun i => L (f i)) (fun i => L (g i)) = (S.pairs f g).map fun p => (L p.1, L p.2)
  | .leaf _ => rfl
  | .node _ l r => by show _ ++ _ = _; rw [l.pairs_map, r.pairs_map, ← List.map_append]; rfl
theorem Sk.fill_inj (f g : Nat → Int) : ∀ S : Sk, S.fill f = S.fill g → ∀ p ∈ S.pairs f g, p.1 = p.2
  | .leaf i, h, p, hp => by
    have h' : f i = g i := by injection h
    have := List.mem_singleton.mp hp
    subst this; exact h'
  | .node m l r, h, p, hp => by
    have h' : l.fill f = l.fill g ∧ r.fill f = r.fill g := by injection h with _ a b; exact ⟨a, b⟩
    rcases List.mem_append.mp hp with hp | hp
    · exact l.fill_inj f g h'.1 p hp
    · exact r.fill_inj f g h'.2 p hp

theorem fold_same {L : Int → Int} : ∀ ps : List (Int × Int), (∀ p ∈ ps, L p.1 = L p.2) → ps.foldl step L = L
  | [], _ => rfl
  | p :: ps, h => by rw [List.foldl_cons, step_same (h p (.head _))]; exact fold_same ps fun q hq => h q (.tail _ hq)
theorem step_absorb {L M : Int → Int} (h : ∀ v, M (L v) = M v) (p : Int × Int) : ∀ v, step M p (L v) = step M p v := by
  intro v; unfold step; rw [h]
theorem fold_absorb {L : Int → Int} : ∀ (ps : List (Int × Int)) (M : Int → Int), (∀ v, M (L v) = M v) → ∀ v, ps.foldl step M (L v) = ps.foldl step M v
  | [], _, h, v => h v
  | p :: ps, M, h, v => fold_absorb ps _ (step_absorb h p) v
theorem fold_map {L : Int → Int} : ∀ (ps : List (Int × Int)) (M : Int → Int), (∀ v, M (L v) = M v) → (ps.map fun p => (L p.1, L p.2)).foldl step M = ps.foldl step M
  | [], _, _ => rfl
  | p :: ps, M, h => by
    rw [List.map_cons, List.foldl_cons, List.foldl_cons]
    have e : step M (L p.1, L p.2) = step M p := by
      funext v; unfold step
      show (if M v = M (L p.1) then M (L p.2) else M v) = _
      rw [h, h]
    rw [e]; exact fold_map ps _ (step_absorb h p)

def Ext (d e : Dc) : Prop := ∀ v T, look d v = some T → look e v = some T
theorem Ext.refl (d : Dc) : Ext d d := fun _ _ h => h
theorem Ext.trans {d e f : Dc} (a : Ext d e) (b : Ext e f) : Ext d f := fun v T h => b v T (a v T h)
theorem Ext.snoc (d : Dc) (p : Int × Ty) : Ext d (d ++ [p]) := fun v T h => by rw [look_append, h]; rfl

def Ok5 (f : Nat → Int) : Prop := ∀ i, 0 ≤ f i ∧ f i < 5

def Ty.len : Ty → Nat
  | .var _ => 1
  | .int => 1
  | .node _ l r => l.len + r.len + 1
def Small (d : Dc) (t : Ty) : Prop := ∀ i, (iter d i t).len ≤ 60
def Safe : Nat → List (Ty × Ty) → Dc → Prop
  | _, [], _ => True
  | 0, _ :: _, _ => True
  | n + 1, p :: work, out => Small out p.1 ∧ Small out p.2 ∧ (match turn (applyT out p.1) (applyT out p.2) work out with
    | .go work' out' => Safe n work' out'
    | .stop _ => True)
theorem Safe.nil (n : Nat) (out : Dc) : Safe n [] out := by cases n <;> trivial
theorem applyLoop_iter (d : Dc) : ∀ (N : Nat) (t : Ty), ∃ j, applyLoop d N t = iter d j t
  | 0, t => ⟨0, rfl⟩
  | N + 1, t => by
    unfold applyLoop
    by_cases h : t.subst d = t
    · rw [if_pos h]; exact ⟨1, rfl⟩
    · rw [if_neg h]
      obtain ⟨j, e⟩ := applyLoop_iter d N (t.subst d)
      exact ⟨j + 1, e⟩
theorem Small.apply {d : Dc} {t : Ty} (h : Small d t) : (applyT d t).len ≤ 60 := by
  obtain ⟨j, e⟩ := applyLoop_iter d (d.length + 1) t
  unfold applyT; rw [e]; exact h j
theorem R.len_subst {out : Dc} {L : Int → Int} (h : R out L) : ∀ t : Ty, (t.subst out).len = t.len
  | .var n => by
    obtain ⟨rk, _, hk⟩ := h.rank
    show ((look out n).getD (.var n)).len = 1
    cases hl : look out n with
    | none => rfl
    | some T => obtain ⟨w, rfl, _⟩ := hk n T hl; rfl
  | .int => rfl
  | .node m l r => by show (l.subst out).len + (r.subst out).len + 1 = _; rw [h.len_subst l, h.len_subst r]; rfl
theorem R.len_iter {out : Dc} {L : Int → Int} (h : R out L) : ∀ (i : Nat) (t : Ty), (Mine.iter out i t).len = t.len
  | 0, _ => rfl
  | i + 1, t => by show (Mine.iter out i (t.subst out)).len = _; rw [h.len_iter i, h.len_subst]
theorem R.small {out : Dc} {L : Int → Int} (h : R out L) {t : Ty} (ht : t.len ≤ 60) : Small out t := fun i => by rw [h.len_iter]; exact ht
theorem Sk.fill_len (f : Nat → Int) : ∀ S : Sk, (S.fill f).len = S.size
  | .leaf _ => rfl
  | .node _ l r => by show (l.fill f).len + (r.fill f).len + 1 = _; rw [l.fill_len, r.fill_len]; rfl

theorem unify_skel : ∀ (S : Sk) (f g : Nat → Int) (out : Dc) (L : Int → Int) (work : List (Ty × Ty)), R out L → Ok5 f → Ok5 g → S.size ≤ 60 →
    ∃ k out', k ≤ S.size ∧ R out' ((S.pairs f g).foldl step L) ∧ Ext out out' ∧ ∀ n, unifyT (n + k) ((S.fill f, S.fill g) :: work) out = unifyT n work out' ∧ (Safe n work out' → Safe (n + k) ((S.fill f, S.fill g) :: work) out)
  | .leaf i, f, g, out, L, work, h, hf, hg, hs => by
    have sx : Small out (.var (f i)) := h.small (Nat.le_of_ble_eq_true rfl)
    have sy : Small out (.var (g i)) := h.small (Nat.le_of_ble_eq_true rfl)
    have ex := h.apply (.var (f i))
    have ey := h.apply (.var (g i))
    by_cases e : L (f i) = L (g i)
    · refine ⟨1, out, Nat.le_refl _, ?_, Ext.refl _, fun n => ?_⟩
      · show R out (step L (f i, g i))
        rw [step_same e]; exact h
      · have et : turn (applyT out (.var (f i))) (applyT out (.var (g i))) work out = .go work out := by
          rw [ex, ey]; unfold turn; rw [if_pos (by show Ty.var _ = Ty.var _; rw [e])]
        refine ⟨?_, fun sf => ⟨sx, sy, ?_⟩⟩
        · show (match turn (applyT out (.var (f i))) (applyT out (.var (g i))) work out with | .go work' out' => unifyT n work' out' | .stop r => r) = _
          rw [et]
        · show (match turn (applyT out (.var (f i))) (applyT out (.var (g i))) work out with | .go work' out' => Safe n work' out' | .stop _ => True)
          rw [et]; exact sf
    · refine ⟨1, out ++ [(L (f i), .var (L (g i)))], Nat.le_refl _, h.join (hf i) (hg i) e, Ext.snoc _ _, fun n => ?_⟩
      have et : turn (applyT out (.var (f i))) (applyT out (.var (g i))) work out = .go work (out ++ [(L (f i), .var (L (g i)))]) := by
        rw [ex, ey]
        show turn (.var (L (f i))) (.var (L (g i))) work out = _
        unfold turn
        rw [if_neg (by intro q; injection q with q; exact e q)]
        dsimp only
        rw [if_neg (by show L (f i) ∉ [L (g i)]; simpa using e), putT_new (h.look_lead _)]
      refine ⟨?_, fun sf => ⟨sx, sy, ?_⟩⟩
      · show (match turn (applyT out (.var (f i))) (applyT out (.var (g i))) work out with | .go work' out' => unifyT n work' out' | .stop r => r) = _
        rw [et]
      · show (match turn (applyT out (.var (f i))) (applyT out (.var (g i))) work out with | .go work' out' => Safe n work' out' | .stop _ => True)
        rw [et]; exact sf
  | .node m l r, f, g, out, L, work, h, hf, hg, hs => by
    have hs' : l.size + r.size + 1 ≤ 60 := hs
    have sx : Small out ((Sk.node m l r).fill f) := h.small (by rw [Sk.fill_len]; exact hs)
    have sy : Small out ((Sk.node m l r).fill g) := h.small (by rw [Sk.fill_len]; exact hs)
    have ex := h.apply ((Sk.node m l r).fill f)
    have ey := h.apply ((Sk.node m l r).fill g)
    rw [Sk.fill_ren] at ex ey
    by_cases e : (Sk.node m l r).fill (fun i => L (f i)) = (Sk.node m l r).fill (fun i => L (g i))
    · have heq := Sk.fill_inj _ _ _ e
      rw [Sk.pairs_map] at heq
      refine ⟨1, out, by show 1 ≤ l.size + r.size + 1; omega, ?_, Ext.refl _, fun n => ?_⟩
      · rw [fold_same _ fun p hp => heq (L p.1, L p.2) (List.mem_map.mpr ⟨p, hp, rfl⟩)]; exact h
      · have et : turn (applyT out ((Sk.node m l r).fill f)) (applyT out ((Sk.node m l r).fill g)) work out = .go work out := by
          rw [ex, ey]; unfold turn; rw [if_pos e]
        refine ⟨?_, fun sf => ⟨sx, sy, ?_⟩⟩
        · show (match turn (applyT out ((Sk.node m l r).fill f)) (applyT out ((Sk.node m l r).fill g)) work out with | .go work' out' => unifyT n work' out' | .stop r => r) = _
          rw [et]
        · show (match turn (applyT out ((Sk.node m l r).fill f)) (applyT out ((Sk.node m l r).fill g)) work out with | .go work' out' => Safe n work' out' | .stop _ => True)
          rw [et]; exact sf
    · have hf' : Ok5 fun i => L (f i) := fun i => h.range (hf i).1 (hf i).2
      have hg' : Ok5 fun i => L (g i) := fun i => h.range (hg i).1 (hg i).2
      obtain ⟨k1, o1, hk1, r1, x1, u1⟩ := unify_skel l (fun i => L (f i)) (fun i => L (g i)) out L ((r.fill fun i => L (f i), r.fill fun i => L (g i)) :: work) h hf' hg' (by omega)
      rw [Sk.pairs_map, fold_map _ L h.idem] at r1
      obtain ⟨k2, o2, hk2, r2, x2, u2⟩ := unify_skel r (fun i => L (f i)) (fun i => L (g i)) o1 _ work r1 hf' hg' (by omega)
      rw [Sk.pairs_map, fold_map _ _ (fold_absorb _ L h.idem), ← List.foldl_append] at r2
      refine ⟨k2 + k1 + 1, o2, by show k2 + k1 + 1 ≤ l.size + r.size + 1; omega, r2, x1.trans x2, fun n => ?_⟩
      have et : turn (applyT out ((Sk.node m l r).fill f)) (applyT out ((Sk.node m l r).fill g)) work out = .go ((l.fill fun i => L (f i), l.fill fun i => L (g i)) :: (r.fill fun i => L (f i), r.fill fun i => L (g i)) :: work) out := by
        rw [ex, ey]
        unfold turn
        rw [if_neg e]
        show (if m = m then Turn.go ((l.fill _, l.fill _) :: (r.fill _, r.fill _) :: work) out else Turn.stop .clash) = _
        rw [if_pos rfl]
      refine ⟨?_, fun sf => ⟨sx, sy, ?_⟩⟩
      · show (match turn (applyT out ((Sk.node m l r).fill f)) (applyT out ((Sk.node m l r).fill g)) work out with | .go work' out' => unifyT (n + (k2 + k1)) work' out' | .stop r => r) = _
        rw [et]
        dsimp only
        rw [← Nat.add_assoc, (u1 _).1, (u2 _).1]
      · show (match turn (applyT out ((Sk.node m l r).fill f)) (applyT out ((Sk.node m l r).fill g)) work out with | .go work' out' => Safe (n + (k2 + k1)) work' out' | .stop _ => True)
        rw [et]
        dsimp only
        rw [← Nat.add_assoc]
        exact (u1 _).2 ((u2 _).2 sf)

theorem unify_law {S : Sk} {f g : Nat → Int} {out : Dc} {L : Int → Int} (h : R out L) (hf : Ok5 f) (hg : Ok5 g) (N : Nat) (hN : S.size ≤ N) (hS : S.size ≤ 60) :
    ∃ out', unifyT N [(S.fill f, S.fill g)] out = .ok out' ∧ Safe N [(S.fill f, S.fill g)] out ∧ R out' ((S.pairs f g).foldl step L) ∧ Ext out out' := by
  obtain ⟨k, out', hk, hr, hx, hu⟩ := unify_skel S f g out L [] h hf hg hS
  obtain ⟨u1, u2⟩ := hu (N - k)
  rw [Nat.sub_add_cancel (by omega)] at u1 u2
  rw [unifyT_nil] at u1
  exact ⟨out', u1, u2 (Safe.nil _ _), hr, hx⟩

/-! the swapped call joins the same variables -/
def Ker (L M : Int → Int) : Prop := ∀ v w, L v = L w ↔ M v = M w
theorem step_eq_iff {L : Int → Int} {p q v w : Int} : step L (p, q) v = step L (p, q) w ↔ (L v = L w ∨ ((L v = L p ∨ L v = L q) ∧ (L w = L p ∨ L w = L q))) := by
  unfold step
  show (if L v = L p then L q else L v) = (if L w = L p then L q else L w) ↔ _
  by_cases a : L v = L p <;> by_cases b : L w = L p
  · rw [if_pos a, if_pos b]; simp [a, b]
  · rw [if_pos a, if_neg b]; constructor
    · intro e; exact .inr ⟨.inl a, .inr e.symm⟩
    · rintro (e | ⟨_, e | e⟩)
      · exact absurd (e ▸ a) b
      · exact absurd e b
      · exact e.symm
  · rw [if_neg a, if_pos b]; constructor
    · intro e; exact .inr ⟨.inr e, .inl b⟩
    · rintro (e | ⟨e | e, _⟩)
      · exact absurd (e.trans b) a
      · exact absurd e a
      · exact e
  · rw [if_neg a, if_neg b]; constructor
    · intro e; exact .inl e
    · rintro (e | ⟨e | e, e' | e'⟩)
      · exact e
      · exact absurd e a
      · exact absurd e a
      · exact absurd e' b
      · rw [e, e']
theorem Ker.step {L M : Int → Int} (h : Ker L M) (p : Int × Int) : Ker (Mine.step L p) (Mine.step M (p.2, p.1)) := by
  intro v w
  obtain ⟨a, b⟩ := p
  rw [step_eq_iff, step_eq_iff, h v w, h v a, h v b, h w a, h w b]
  constructor
  · rintro (e | ⟨e, e'⟩)
    · exact .inl e
    · exact .inr ⟨e.symm, e'.symm⟩
  · rintro (e | ⟨e, e'⟩)
    · exact .inl e
    · exact .inr ⟨e.symm, e'.symm⟩
theorem Ker.fold : ∀ (ps : List (Int × Int)) {L M : Int → Int}, Ker L M → Ker (ps.foldl Mine.step L) ((ps.map fun p => (p.2, p.1)).foldl Mine.step M)
  | [], _, _, h => h
  | p :: ps, _, _, h => Ker.fold ps (h.step p)
theorem Sk.pairs_swap (f g : Nat → Int) : ∀ S : Sk, S.pairs g f = (S.pairs f g).map fun p => (p.2, p.1)
  | .leaf _ => rfl
  | .node _ l r => by show _ ++ _ = _; rw [l.pairs_swap f g, r.pairs_swap f g, ← List.map_append]; rfl
theorem Ker.law (S : Sk) (f g : Nat → Int) (L : Int → Int) : Ker ((S.pairs f g).foldl Mine.step L) ((S.pairs g f).foldl Mine.step L) := by
  rw [S.pairs_swap f g]; exact Ker.fold _ fun _ _ => Iff.rfl


/-! the last call -/
def xT (m : Bool) (v w : Int) : Ty := .node m (.var v) (.var w)
def yT (m : Bool) (u : Int) : Ty := .node m (.node true (.var u) (.var u)) .int
def out2 (s : Dc) (L : Int → Int) (v u w : Int) : Dc := s ++ [(L v, .node true (.var (L u)) (.var (L u)))] ++ [(L w, .int)]
def lastRes (s : Dc) (L : Int → Int) (v u w : Int) (n : Nat) : Res :=
  if n < 2 then .fuel else if L v = L u then .occurs else if n < 3 then .fuel else if L v = L w then .clash else .ok (out2 s L v u w)

section
variable {s : Dc} {L : Int → Int} (h : R s L) (m : Bool) (v u w : Int)
include h

theorem look1 (k : Int) (hk : look s k = none) : look (s ++ [(L v, .node true (.var (L u)) (.var (L u)))]) k = if L v = k then some (.node true (.var (L u)) (.var (L u))) else none := by
  rw [look_append, hk, look_cons, look_nil]; rfl

theorem apply1_same (hne : L v ≠ L u) : applyT (s ++ [(L v, .node true (.var (L u)) (.var (L u)))]) (.var (L v)) = .node true (.var (L u)) (.var (L u)) := by
  refine applyT_of (n := 1) (by simp only [List.length_append, List.length_cons, List.length_nil]; omega) ?_ ?_
  · show (look _ (L v)).getD _ = _
    rw [look1 h v u _ (h.look_lead v), if_pos rfl]; rfl
  · show Ty.node true ((look _ (L u)).getD _) ((look _ (L u)).getD _) = _
    rw [look1 h v u _ (h.look_lead u), if_neg hne]; rfl
theorem apply1_other (hne : L v ≠ L w) : applyT (s ++ [(L v, .node true (.var (L u)) (.var (L u)))]) (.var (L w)) = .var (L w) := by
  refine applyT_of (n := 0) (Nat.zero_le _) rfl ?_
  show (look _ (L w)).getD _ = _
  rw [look1 h v u _ (h.look_lead w), if_neg hne]; rfl
omit h in
theorem apply_int (d : Dc) : applyT d .int = .int := applyT_of (n := 0) (Nat.zero_le _) rfl rfl

theorem last_xy (n : Nat) : unifyT n [(xT m v w, yT m u)] s = lastRes s L v u w n := by
  unfold lastRes
  match n with
  | 0 => rfl
  | 1 =>
    show (match turn (applyT s (xT m v w)) (applyT s (yT m u)) [] s with | .go work' out' => unifyT 0 work' out' | .stop r => r) = _
    rw [h.apply, h.apply]
    simp only [xT, yT, Ty.ren, turn, Ty.node.injEq, true_and, reduceCtorEq, false_and, if_false, if_true, unifyT]
    rfl
  | k + 2 =>
    show (match turn (applyT s (xT m v w)) (applyT s (yT m u)) [] s with | .go work' out' => unifyT (k + 1) work' out' | .stop r => r) = _
    rw [h.apply, h.apply]
    simp only [xT, yT, Ty.ren, turn, Ty.node.injEq, true_and, reduceCtorEq, false_and, if_false, if_true]
    rw [if_neg (by omega)]
    show (match turn (applyT s (.var (L v))) (applyT s (.node true (.var (L u)) (.var (L u)))) [(.var (L w), .int)] s with | .go work' out' => unifyT k work' out' | .stop r => r) = _
    rw [h.apply, h.apply]
    simp only [Ty.ren, h.idem, turn, reduceCtorEq, if_false, Ty.vars, List.cons_append, List.nil_append, List.mem_cons, List.not_mem_nil, or_false, or_self]
    by_cases e : L v = L u
    · rw [if_pos e, if_pos e]
    · rw [if_neg e, if_neg e, putT_new (h.look_lead v)]
      dsimp only
      match k with
      | 0 => rw [if_pos (by omega)]; rfl
      | j + 1 =>
        rw [if_neg (by omega)]
        show (match turn (applyT _ (.var (L w))) (applyT _ .int) [] _ with | .go work' out' => unifyT j work' out' | .stop r => r) = _
        rw [apply_int]
        by_cases e' : L v = L w
        · rw [if_pos e', ← e', apply1_same h v u e]; rfl
        · rw [if_neg e', apply1_other h v u w e']
          simp only [turn, reduceCtorEq, if_false, Ty.vars, List.not_mem_nil]
          rw [unifyT_nil, putT_new (by rw [look1 h v u _ (h.look_lead w), if_neg e'])]; rfl

theorem last_yx (n : Nat) : unifyT n [(yT m u, xT m v w)] s = lastRes s L v u w n := by
  unfold lastRes
  match n with
  | 0 => rfl
  | 1 =>
    show (match turn (applyT s (yT m u)) (applyT s (xT m v w)) [] s with | .go work' out' => unifyT 0 work' out' | .stop r => r) = _
    rw [h.apply, h.apply]
    simp only [xT, yT, Ty.ren, turn, Ty.node.injEq, true_and, reduceCtorEq, false_and, if_false, if_true, unifyT]
    rfl
  | k + 2 =>
    show (match turn (applyT s (yT m u)) (applyT s (xT m v w)) [] s with | .go work' out' => unifyT (k + 1) work' out' | .stop r => r) = _
    rw [h.apply, h.apply]
    simp only [xT, yT, Ty.ren, turn, Ty.node.injEq, true_and, reduceCtorEq, false_and, if_false, if_true]
    rw [if_neg (by omega)]
    show (match turn (applyT s (.node true (.var (L u)) (.var (L u)))) (applyT s (.var (L v))) [(.int, .var (L w))] s with | .go work' out' => unifyT k work' out' | .stop r => r) = _
    rw [h.apply, h.apply]
    simp only [Ty.ren, h.idem, turn, reduceCtorEq, if_false, Ty.vars, List.cons_append, List.nil_append, List.mem_cons, List.not_mem_nil, or_false, or_self]
    by_cases e : L v = L u
    · rw [if_pos e, if_pos e]
    · rw [if_neg e, if_neg e, putT_new (h.look_lead v)]
      dsimp only
      match k with
      | 0 => rw [if_pos (by omega)]; rfl
      | j + 1 =>
        rw [if_neg (by omega)]
        show (match turn (applyT _ .int) (applyT _ (.var (L w))) [] _ with | .go work' out' => unifyT j work' out' | .stop r => r) = _
        rw [apply_int]
        by_cases e' : L v = L w
        · rw [if_pos e', ← e', apply1_same h v u e]; rfl
        · rw [if_neg e', apply1_other h v u w e']
          simp only [turn, reduceCtorEq, if_false, Ty.vars, List.not_mem_nil]
          rw [unifyT_nil, putT_new (by rw [look1 h v u _ (h.look_lead w), if_neg e'])]; rfl

theorem small1 (hne : L v ≠ L u) (x : Int) : Small (s ++ [(L v, .node true (.var (L u)) (.var (L u)))]) (.var (L x)) := by
  intro i
  by_cases e : L v = L x
  · rw [← e]
    match i with
    | 0 => exact Nat.le_of_ble_eq_true rfl
    | j + 1 =>
      have e1 : (Ty.var (L v)).subst (s ++ [(L v, .node true (.var (L u)) (.var (L u)))]) = .node true (.var (L u)) (.var (L u)) := by
        show (look _ (L v)).getD _ = _
        rw [look1 h v u _ (h.look_lead v), if_pos rfl]; rfl
      have e2 : (Ty.node true (.var (L u)) (.var (L u))).subst (s ++ [(L v, .node true (.var (L u)) (.var (L u)))]) = .node true (.var (L u)) (.var (L u)) := by
        show Ty.node true ((look _ (L u)).getD _) ((look _ (L u)).getD _) = _
        rw [look1 h v u _ (h.look_lead u), if_neg hne]; rfl
      rw [iter, e1, iter_fix e2]; exact Nat.le_of_ble_eq_true rfl
  · have e1 : (Ty.var (L x)).subst (s ++ [(L v, .node true (.var (L u)) (.var (L u)))]) = .var (L x) := by
      show (look _ (L x)).getD _ = _
      rw [look1 h v u _ (h.look_lead x), if_neg e]; rfl
    rw [iter_fix e1]; exact Nat.le_of_ble_eq_true rfl
omit h in
theorem small_int (d : Dc) : Small d .int := fun i => by rw [iter_int]; decide

theorem safe_xy (n : Nat) : Safe n [(xT m v w, yT m u)] s := by
  match n with
  | 0 => trivial
  | k + 1 =>
    refine ⟨h.small (Nat.le_of_ble_eq_true rfl), h.small (Nat.le_of_ble_eq_true rfl), ?_⟩
    rw [h.apply, h.apply]
    simp only [xT, yT, Ty.ren, turn, Ty.node.injEq, true_and, reduceCtorEq, false_and, if_false, if_true]
    match k with
    | 0 => trivial
    | k + 1 =>
      refine ⟨h.small (Nat.le_of_ble_eq_true rfl), h.small (Nat.le_of_ble_eq_true rfl), ?_⟩
      rw [h.apply, h.apply]
      simp only [Ty.ren, h.idem, turn, reduceCtorEq, if_false, Ty.vars, List.cons_append, List.nil_append, List.mem_cons, List.not_mem_nil, or_false, or_self]
      by_cases e : L v = L u
      · rw [if_pos e]; trivial
      · rw [if_neg e, putT_new (h.look_lead v)]
        dsimp only
        match k with
        | 0 => trivial
        | j + 1 =>
          refine ⟨small1 h v u e w, small_int _, ?_⟩
          dsimp only
          split
          · rename_i work' out' q
            have : work' = [] := by
              rw [apply_int] at q
              by_cases e' : L v = L w
              · rw [← e', apply1_same h v u e] at q; simp [turn] at q
              · rw [apply1_other h v u w e'] at q
                simp only [turn, reduceCtorEq, if_false, Ty.vars, List.not_mem_nil] at q
                injection q with q _; exact q.symm
            subst this; exact Safe.nil _ _
          · trivial
theorem safe_yx (n : Nat) : Safe n [(yT m u, xT m v w)] s := by
  match n with
  | 0 => trivial
  | k + 1 =>
    refine ⟨h.small (Nat.le_of_ble_eq_true rfl), h.small (Nat.le_of_ble_eq_true rfl), ?_⟩
    rw [h.apply, h.apply]
    simp only [xT, yT, Ty.ren, turn, Ty.node.injEq, true_and, reduceCtorEq, false_and, if_false, if_true]
    match k with
    | 0 => trivial
    | k + 1 =>
      refine ⟨h.small (Nat.le_of_ble_eq_true rfl), h.small (Nat.le_of_ble_eq_true rfl), ?_⟩
      rw [h.apply, h.apply]
      simp only [Ty.ren, h.idem, turn, reduceCtorEq, if_false, Ty.vars, List.cons_append, List.nil_append, List.mem_cons, List.not_mem_nil, or_false, or_self]
      by_cases e : L v = L u
      · rw [if_pos e]; trivial
      · rw [if_neg e, putT_new (h.look_lead v)]
        dsimp only
        match k with
        | 0 => trivial
        | j + 1 =>
          refine ⟨small_int _, small1 h v u e w, ?_⟩
          dsimp only
          split
          · rename_i work' out' q
            have : work' = [] := by
              rw [apply_int] at q
              by_cases e' : L v = L w
              · rw [← e', apply1_same h v u e] at q; simp [turn] at q
              · rw [apply1_other h v u w e'] at q
                simp only [turn, reduceCtorEq, if_false, Ty.vars, List.not_mem_nil] at q
                injection q with q _; exact q.symm
            subst this; exact Safe.nil _ _
          · trivial

/-- the image of the last call -/
def topT (L : Int → Int) (u w : Int) : Ty := if L u = L w then .int else .var (L u)
def imageT (L : Int → Int) (m : Bool) (u w : Int) : Ty := .node m (.node true (topT L u w) (topT L u w)) .int

omit h in
theorem out2_length : (out2 s L v u w).length = s.length + 2 := by simp [out2]

theorem reach (e : Dc) (x : Int) : ∃ k, k ≤ s.length ∧ iter (s ++ e) k (.var x) = .var (L x) := by
  obtain ⟨rk, ⟨hle, -⟩, hk⟩ := h.rank
  have : ∀ n x, rk x < n → ∃ k, k ≤ rk x ∧ iter (s ++ e) k (.var x) = .var (L x) := by
    intro n
    induction n with
    | zero => intro x hx; omega
    | succ n ih =>
      intro x hx
      cases hl : look s x with
      | none => exact ⟨0, Nat.zero_le _, by rw [h.root x hl]; rfl⟩
      | some T =>
        obtain ⟨y, rfl, _, _, e1, hlt⟩ := hk x T hl
        obtain ⟨k, hk1, hk2⟩ := ih y (by omega)
        refine ⟨k + 1, by omega, ?_⟩
        have hs : (Ty.var x).subst (s ++ e) = .var y := by show (look _ x).getD _ = _; rw [look_append, hl]; rfl
        rw [iter, hs, hk2, e1]
  obtain ⟨k, a, b⟩ := this _ x (Nat.lt_succ_self _)
  exact ⟨k, Nat.le_trans a (hle x), b⟩

omit h in
theorem settle {d : Dc} {k n : Nat} {t t' t'' : Ty} (hk : k + 2 ≤ n) (h1 : iter d k t = t') (h2 : iter d 2 t' = t'') (hf : t''.subst d = t'') : iter d n t = t'' := by
  have e : n = k + (2 + (n - k - 2)) := by omega
  rw [e, iter_add, h1, iter_add, h2, iter_fix hf]

theorem look2 (k : Int) (hk : look s k = none) : look (out2 s L v u w) k = (if L v = k then some (.node true (.var (L u)) (.var (L u))) else none : Option Ty).or (if L w = k then some .int else none) := by
  unfold out2
  rw [look_append, look1 h v u k hk, look_cons, look_nil]

variable (h1 : L v ≠ L u) (h2 : L v ≠ L w)
include h1 h2

theorem top_fix : (topT L u w).subst (out2 s L v u w) = topT L u w := by
  unfold topT
  split
  · rfl
  · rename_i hn
    show (look _ (L u)).getD _ = _
    rw [look2 h v u w _ (h.look_lead u), if_neg h1, if_neg (fun e => hn e.symm)]; rfl
theorem sub_lead_u : (Ty.var (L u)).subst (out2 s L v u w) = topT L u w := by
  show (look _ (L u)).getD _ = _
  rw [look2 h v u w _ (h.look_lead u), if_neg h1]
  unfold topT
  by_cases e : L u = L w
  · rw [if_pos e.symm, if_pos e]; rfl
  · rw [if_neg (fun q => e q.symm), if_neg e]; rfl
theorem image_u {n : Nat} (hn : s.length + 2 ≤ n) : iter (out2 s L v u w) n (.var u) = topT L u w := by
  obtain ⟨k, a, b⟩ := reach h ([(L v, .node true (.var (L u)) (.var (L u)))] ++ [(L w, .int)]) u
  rw [← List.append_assoc] at b
  refine settle (by omega) b ?_ (top_fix h v u w h1 h2)
  show ((Ty.var (L u)).subst (out2 s L v u w)).subst (out2 s L v u w) = _
  rw [sub_lead_u h v u w h1 h2, top_fix h v u w h1 h2]
theorem image_v {n : Nat} (hn : s.length + 2 ≤ n) : iter (out2 s L v u w) n (.var v) = .node true (topT L u w) (topT L u w) := by
  obtain ⟨k, a, b⟩ := reach h ([(L v, .node true (.var (L u)) (.var (L u)))] ++ [(L w, .int)]) v
  rw [← List.append_assoc] at b
  have e : (Ty.var (L v)).subst (out2 s L v u w) = .node true (.var (L u)) (.var (L u)) := by
    show (look _ (L v)).getD _ = _
    rw [look2 h v u w _ (h.look_lead v), if_pos rfl]; rfl
  refine settle (by omega) b ?_ ?_
  · show ((Ty.var (L v)).subst (out2 s L v u w)).subst (out2 s L v u w) = _
    rw [e]
    show Ty.node true ((Ty.var (L u)).subst _) ((Ty.var (L u)).subst _) = _
    rw [sub_lead_u h v u w h1 h2]
  · show Ty.node true ((topT L u w).subst _) ((topT L u w).subst _) = _
    rw [top_fix h v u w h1 h2]
theorem image_w {n : Nat} (hn : s.length + 2 ≤ n) : iter (out2 s L v u w) n (.var w) = .int := by
  obtain ⟨k, a, b⟩ := reach h ([(L v, .node true (.var (L u)) (.var (L u)))] ++ [(L w, .int)]) w
  rw [← List.append_assoc] at b
  have e : (Ty.var (L w)).subst (out2 s L v u w) = .int := by
    show (look _ (L w)).getD _ = _
    rw [look2 h v u w _ (h.look_lead w), if_neg h2, if_pos rfl]; rfl
  refine settle (by omega) b ?_ rfl
  show ((Ty.var (L w)).subst (out2 s L v u w)).subst (out2 s L v u w) = _
  rw [e]; rfl
theorem image_fix : (imageT L m u w).subst (out2 s L v u w) = imageT L m u w := by
  show Ty.node m (.node true ((topT L u w).subst _) ((topT L u w).subst _)) .int = _
  rw [top_fix h v u w h1 h2]; rfl
theorem last_x : applyT (out2 s L v u w) (xT m v w) = imageT L m u w := by
  refine applyT_of (n := s.length + 2) (by rw [out2_length]; omega) ?_ (image_fix h m v u w h1 h2)
  unfold xT
  rw [iter_node, image_v h v u w h1 h2 (Nat.le_refl _), image_w h v u w h1 h2 (Nat.le_refl _)]; rfl
theorem last_y : applyT (out2 s L v u w) (yT m u) = imageT L m u w := by
  refine applyT_of (n := s.length + 2) (by rw [out2_length]; omega) ?_ (image_fix h m v u w h1 h2)
  unfold yT
  rw [iter_node, iter_node, image_u h v u w h1 h2 (Nat.le_refl _), iter_int]; rfl
end

/-! the list of leaders -/
def ledOf (L : Int → Int) : List Int := [L 0, L 1, L 2, L 3, L 4]
theorem ledOf_step (L : Int → Int) (p q : Int) : ledOf (step L (p, q)) = (ledOf L).map fun x => if x = L p then L q else x := rfl
theorem ledOf_get (L : Int → Int) {v : Int} (h0 : 0 ≤ v) (h5 : v < 5) : (ledOf L)[v.toNat]? = some (L v) := by
  have : v = 0 ∨ v = 1 ∨ v = 2 ∨ v = 3 ∨ v = 4 := by omega
  rcases this with rfl | rfl | rfl | rfl | rfl <;> rfl
theorem mem_ledOf {L : Int → Int} {x : Int} : x ∈ ledOf L ↔ ∃ v, 0 ≤ v ∧ v < 5 ∧ L v = x := by
  constructor
  · intro h
    simp only [ledOf, List.mem_cons, List.not_mem_nil, or_false] at h
    rcases h with rfl | rfl | rfl | rfl | rfl
    · exact ⟨0, by decide, by decide, rfl⟩
    · exact ⟨1, by decide, by decide, rfl⟩
    · exact ⟨2, by decide, by decide, rfl⟩
    · exact ⟨3, by decide, by decide, rfl⟩
    · exact ⟨4, by decide, by decide, rfl⟩
  · rintro ⟨v, h0, h5, rfl⟩
    exact List.mem_of_getElem? (ledOf_get L h0 h5)
theorem R.mem_led {out : Dc} {L : Int → Int} (h : R out L) {x : Int} (h0 : 0 ≤ x) (h5 : x < 5) : x ∈ ledOf L ↔ look out x = none := by
  rw [mem_ledOf]
  constructor
  · rintro ⟨v, _, _, rfl⟩; exact h.look_lead v
  · intro hn; exact ⟨x, h0, h5, h.root x hn⟩
theorem R.count {out : Dc} {L : Int → Int} (h : R out L) : (([0, 1, 2, 3, 4] : List Int).filter fun v => decide (v ∈ ledOf L)).length + out.length = 5 := by
  have e : (([0, 1, 2, 3, 4] : List Int).filter fun v => decide (v ∈ out.map (·.1))).length = out.length := by
    rw [← List.length_map (as := out) (·.1)]
    refine List.Perm.length_eq ((List.perm_ext_iff_of_nodup (List.Sublist.nodup List.filter_sublist (by decide)) h.nodup).mpr fun a => ?_)
    rw [List.mem_filter, decide_eq_true_eq]
    refine ⟨fun q => q.2, fun q => ⟨?_, q⟩⟩
    obtain ⟨a0, a5⟩ := h.keys a q
    have : a = 0 ∨ a = 1 ∨ a = 2 ∨ a = 3 ∨ a = 4 := by omega
    simpa using this
  have e2 : ∀ l : List Int, (∀ x ∈ l, 0 ≤ x ∧ x < 5) → (l.filter fun v => decide (v ∈ ledOf L)).length + (l.filter fun v => decide (v ∈ out.map (·.1))).length = l.length := by
    intro l
    induction l with
    | nil => intro _; rfl
    | cons x l ih =>
      intro hl
      have := ih fun y hy => hl y (.tail _ hy)
      have hx := h.mem_led (hl x (.head _)).1 (hl x (.head _)).2
      rw [look_none_iff] at hx
      rw [List.filter_cons, List.filter_cons, List.length_cons]
      by_cases q : x ∈ ledOf L
      · have q' := hx.mp q
        rw [decide_eq_true q, decide_eq_false q', if_pos rfl, if_neg Bool.false_ne_true, List.length_cons]; omega
      · have q' : x ∈ out.map (·.1) := Classical.byContradiction fun z => q (hx.mpr z)
        rw [decide_eq_false q, decide_eq_true q', if_neg Bool.false_ne_true, if_pos rfl, List.length_cons]; omega
  have := e2 [0, 1, 2, 3, 4] (by decide)
  rw [e] at this
  exact this

/-! the start: a variable bound to a higher one -/
structure Up (d : Dc) : Prop where
  up : ∀ k T, look d k = some T → ∃ j, T = .var j ∧ 0 ≤ k ∧ k < j ∧ j ≤ 4
  nodup : (d.map (·.1)).Nodup

def one (d : Dc) (v : Int) : Int := match look d v with
  | some (.var j) => j
  | _ => v
def lead (d : Dc) (v : Int) : Int := one d (one d (one d (one d v)))

theorem Up.nil : Up [] := ⟨fun _ _ h => (by cases h), List.nodup_nil⟩
theorem look_putT (d : Dc) (k : Int) (v : Ty) (x : Int) : look (putT d k v) x = if x = k then some v else look d x := by
  unfold putT
  rw [any_iff_look]
  cases hl : look d k with
  | none =>
    rw [Option.isSome_none, if_neg Bool.false_ne_true, look_append, look_cons, look_nil]
    by_cases e : x = k
    · subst e; simp [hl]
    · rw [if_neg e, if_neg (fun q => e q.symm)]; cases look d x <;> rfl
  | some T =>
    rw [Option.isSome_some, if_pos rfl]
    have key : ∀ d : Dc, look (d.map fun kv => if kv.1 = k then (kv.1, v) else kv) x = if x = k then (look d k).map (fun _ => v) else look d x := by
      intro d
      induction d with
      | nil => rw [List.map_nil, look_nil, look_nil]; split <;> rfl
      | cons p d ih =>
        rw [List.map_cons, look_cons, ih, look_cons, look_cons]
        by_cases e : p.1 = k <;> by_cases e' : x = k
        · subst e'; simp [e]
        · have : ¬ k = x := fun q => e' q.symm
          simp [e, e', this]
        · subst e'; simp [e]
        · simp [e, e']
    rw [key d, hl]; rfl
theorem putT_keys (d : Dc) (k : Int) (v : Ty) (h : (d.map (·.1)).Nodup) : ((putT d k v).map (·.1)).Nodup := by
  unfold putT
  rw [any_iff_look]
  cases hl : look d k with
  | none =>
    rw [Option.isSome_none, if_neg Bool.false_ne_true, List.map_append, List.nodup_append]
    refine ⟨h, by simp, ?_⟩
    intro a ha b hb
    simp only [List.map_cons, List.map_nil, List.mem_singleton] at hb
    subst hb
    exact fun e => (look_none_iff d b).mp hl (e ▸ ha)
  | some T =>
    rw [Option.isSome_some, if_pos rfl]
    have key : ∀ d : Dc, (d.map fun kv => if kv.1 = k then (kv.1, v) else kv).map (·.1) = d.map (·.1) := by
      intro d
      induction d with
      | nil => rfl
      | cons p d ih => rw [List.map_cons, List.map_cons, List.map_cons, ih]; by_cases e : p.1 = k <;> simp [e]
    rw [key]; exact h
theorem Up.put {d : Dc} (h : Up d) {k j : Int} (h0 : 0 ≤ k) (h1 : k < j) (h2 : j ≤ 4) : Up (putT d k (.var j)) := by
  refine ⟨fun x T hx => ?_, putT_keys _ _ _ h.nodup⟩
  rw [look_putT] at hx
  by_cases e : x = k
  · rw [if_pos e] at hx; cases hx; subst e; exact ⟨j, rfl, h0, h1, h2⟩
  · rw [if_neg e] at hx; exact h.up x T hx

theorem one_none {d : Dc} {v : Int} (h : look d v = none) : one d v = v := by unfold one; rw [h]
theorem one_some {d : Dc} {v j : Int} (h : look d v = some (.var j)) : one d v = j := by unfold one; rw [h]
theorem Up.one_cases {d : Dc} (h : Up d) (v : Int) : one d v = v ∧ look d v = none ∨ 0 ≤ v ∧ v < one d v ∧ one d v ≤ 4 ∧ look d v = some (.var (one d v)) := by
  cases hl : look d v with
  | none => exact .inl ⟨one_none hl, rfl⟩
  | some T =>
    obtain ⟨j, rfl, a, b, c⟩ := h.up v T hl
    rw [one_some hl]; exact .inr ⟨a, b, c, rfl⟩
theorem lead_none {d : Dc} {v : Int} (h : look d v = none) : lead d v = v := by unfold lead; rw [one_none h, one_none h, one_none h, one_none h]
theorem Up.lead_fix {d : Dc} (h : Up d) (v : Int) : one d (lead d v) = lead d v := by
  unfold lead
  have e : ∀ x, one d x = x → one d (one d x) = one d x := fun x q => by rw [q, q]
  rcases h.one_cases v with ⟨a, _⟩ | ⟨a, b, c, _⟩
  · rw [a, a, a, a, a]
  rcases h.one_cases (one d v) with ⟨a2, _⟩ | ⟨a2, b2, c2, _⟩
  · rw [a2, a2, a2, a2]
  rcases h.one_cases (one d (one d v)) with ⟨a3, _⟩ | ⟨a3, b3, c3, _⟩
  · rw [a3, a3, a3]
  rcases h.one_cases (one d (one d (one d v))) with ⟨a4, _⟩ | ⟨a4, b4, c4, _⟩
  · rw [a4, a4]
  rcases h.one_cases (one d (one d (one d (one d v)))) with ⟨a5, _⟩ | ⟨a5, b5, c5, _⟩
  · exact a5
  · omega
theorem Up.lead_some {d : Dc} (h : Up d) {v j : Int} (hv : look d v = some (.var j)) : lead d j = lead d v := by
  have e := h.lead_fix v
  show one d (one d (one d (one d j))) = one d (one d (one d (one d v)))
  unfold lead at e
  rw [one_some hv] at e ⊢
  exact e
theorem Up.lead4 {d : Dc} (h : Up d) : lead d 4 = 4 := by
  refine lead_none ?_
  cases hl : look d 4 with
  | none => rfl
  | some T => obtain ⟨j, _, a, b, c⟩ := h.up 4 T hl; omega
theorem Up.mem_look {d : Dc} {k : Int} (hk : k ∈ d.map (·.1)) : ∃ T, look d k = some T := by
  cases hl : look d k with
  | none => exact absurd hk ((look_none_iff d k).mp hl)
  | some T => exact ⟨T, rfl⟩

theorem count_lt : ∀ (d : Dc) (v w : Int), v < w → v ∈ d.map (·.1) → (d.filter fun p => decide (w ≤ p.1)).length < (d.filter fun p => decide (v ≤ p.1)).length
  | [], _, _, _, h => by cases h
  | p :: d, v, w, hvw, h => by
    have mono : ∀ d : Dc, (d.filter fun p => decide (w ≤ p.1)).length ≤ (d.filter fun p => decide (v ≤ p.1)).length := by
      intro d
      induction d with
      | nil => exact Nat.le_refl _
      | cons p d ih =>
        rw [List.filter_cons, List.filter_cons]
        by_cases a : w ≤ p.1
        · have b : v ≤ p.1 := by omega
          rw [decide_eq_true a, decide_eq_true b, if_pos rfl, if_pos rfl, List.length_cons, List.length_cons]; omega
        · rw [decide_eq_false a, if_neg Bool.false_ne_true]
          split
          · rw [List.length_cons]; omega
          · exact ih
    rw [List.filter_cons, List.filter_cons]
    rw [List.map_cons, List.mem_cons] at h
    by_cases e : v = p.1
    · have a : ¬ w ≤ p.1 := by omega
      have b : v ≤ p.1 := by omega
      rw [decide_eq_false a, decide_eq_true b, if_neg Bool.false_ne_true, if_pos rfl, List.length_cons]
      have := mono d
      omega
    · have ih := count_lt d v w hvw (h.resolve_left e)
      by_cases a : w ≤ p.1
      · have b : v ≤ p.1 := by omega
        rw [decide_eq_true a, decide_eq_true b, if_pos rfl, if_pos rfl, List.length_cons, List.length_cons]; omega
      · rw [decide_eq_false a, if_neg Bool.false_ne_true]
        split
        · rw [List.length_cons]; omega
        · exact ih

theorem Up.R {d : Dc} (h : Up d) : Mine.R d (lead d) := by
  refine ⟨⟨fun v => if look d v = none then 0 else (d.filter fun p => decide (v ≤ p.1)).length, ⟨fun v => ?_, fun v hv => ?_⟩, fun v T hv => ?_⟩, fun v hv => lead_none hv, fun k hk => ?_, h.nodup⟩
  · dsimp only
    split
    · exact Nat.zero_le _
    · exact List.length_filter_le _ _
  · dsimp only; rw [if_pos hv]
  · obtain ⟨j, rfl, a, b, c⟩ := h.up v T hv
    refine ⟨j, rfl, by omega, by omega, h.lead_some hv, ?_⟩
    dsimp only
    have hm : v ∈ d.map (·.1) := Classical.byContradiction fun q => by rw [(look_none_iff d v).mpr q] at hv; cases hv
    have := count_lt d v j b hm
    rw [if_neg (show ¬ look d v = none by rw [hv]; simp)]
    split <;> omega
  · obtain ⟨T, hT⟩ := Up.mem_look hk
    obtain ⟨j, _, a, b, c⟩ := h.up k T hT
    omega

/-! the shapes -/
def sk : Nat → Bool → Bool → Bool → Sk
  | 0, _, _, _ => .leaf 0
  | 1, a, _, _ => .node a (.leaf 0) (.leaf 1)
  | 2, a, b, _ => .node b (.node a (.leaf 0) (.leaf 1)) (.leaf 2)
  | 3, a, b, _ => .node b (.leaf 0) (.node a (.leaf 1) (.leaf 2))
  | 4, a, b, c => .node c (.node b (.node a (.leaf 0) (.leaf 1)) (.leaf 2)) (.leaf 3)
  | 5, a, b, c => .node c (.leaf 0) (.node b (.leaf 1) (.node a (.leaf 2) (.leaf 3)))
  | _, a, b, c => .node c (.node a (.leaf 0) (.leaf 1)) (.node b (.leaf 2) (.leaf 3))

end Mine

namespace Mine
open PySem PyProof.Rows

/-- the state with another heap and another token count -/
abbrev St (r : Shared) (h : Heap) (tk : Nat) : Shared := { heap := h, gens := r.gens, drawn := r.drawn, toks := tk, os := r.os }

abbrev Sub (h h' : Heap) : Prop := ∀ a o, h.get? a = some o → h'.get? a = some o

/-- the part of a heap on which p holds -/
noncomputable def cut (h : Heap) (p : Addr → Prop) : Heap :=
  open Classical in ⟨h.objs.mapIdx fun i o => if p i then o else ⟨.none, none, .freed, #[]⟩, h.life⟩
theorem cut_get {h : Heap} {p : Addr → Prop} {a : Addr} {o : Obj} : (cut h p).get? a = some o ↔ h.get? a = some o ∧ p a := by
  rw [Heap.get?_some_iff, Heap.get?_some_iff]
  unfold cut
  dsimp only
  rw [Array.getElem?_mapIdx]
  cases hx : h.objs[a]? with
  | none => simp
  | some x =>
    by_cases hp : p a
    · simp [hp]
    · simp only [Option.map_some, Option.some.injEq, hp, if_false, and_false, iff_false, not_and]
      rintro rfl; simp [Obj.isFreed]
theorem cut_none {h : Heap} {p : Addr → Prop} {a : Addr} (hp : ¬ p a) : (cut h p).get? a = none := by
  cases hx : (cut h p).get? a with
  | none => rfl
  | some o => exact absurd (cut_get.mp hx).2 hp

/-- where a call stands: h₀ the heap at its start, Z₀ what the caller has frozen, Z what is frozen now, L its locals, Ms what it may still change -/
structure At (h₀ Z₀ Z : Heap) (L : Addr) (Ms : List (Addr × Obj)) (h : Heap) (m : Str → Option Value) : Prop where
  ns : h.Ns L m
  keep : Sub h₀ h
  above : h₀.objs.size ≤ L
  z : Sub Z h
  zL : Z.get? L = none
  z0 : Sub Z₀ Z
  new : ∀ a o, h₀.get? a = some o → Z₀.get? a = none → Z.get? a = none
  ms : ∀ p ∈ Ms, h.get? p.1 = some p.2 ∧ p.1 ≠ L ∧ h₀.get? p.1 = none ∧ Z.get? p.1 = none
  nd : (Ms.map (·.1)).Nodup

/-- what a call leaves -/
structure Grown (h Z h' Z' : Heap) : Prop where
  keep : Sub h h'
  z0 : Sub Z Z'
  z : Sub Z' h'
  new : ∀ a o, h.get? a = some o → Z.get? a = none → Z'.get? a = none

theorem Grown.refl {h Z : Heap} (hz : Sub Z h) : Grown h Z h Z := ⟨fun _ _ e => e, fun _ _ e => e, hz, fun _ _ _ e => e⟩
theorem Grown.trans {h Z h' Z' h'' Z'' : Heap} (a : Grown h Z h' Z') (b : Grown h' Z' h'' Z'') : Grown h Z h'' Z'' :=
  ⟨fun x o e => b.keep x o (a.keep x o e), fun x o e => b.z0 x o (a.z0 x o e), b.z, fun x o e n => b.new x o (a.keep x o e) (a.new x o e n)⟩

namespace At
variable {h₀ Z₀ Z : Heap} {L : Addr} {Ms : List (Addr × Obj)} {h h' : Heap} {m m' : Str → Option Value}

theorem live (a : At h₀ Z₀ Z L Ms h m) : ∃ o, h.get? L = some o := let ⟨o, _, _, e, _⟩ := a.ns; ⟨o, e⟩
theorem fr (a : At h₀ Z₀ Z L Ms h m) : Fr h₀ L h m := ⟨a.ns, a.keep, a.above⟩
theorem base_ne (a : At h₀ Z₀ Z L Ms h m) {b : Addr} {o : Obj} (e : h₀.get? b = some o) : b ≠ L := Nat.ne_of_lt (Nat.lt_of_lt_of_le (Heap.lt_size e) a.above)

theorem start {h₁ : Heap} (hz : Sub Z h₀) (hn : h₁.Ns h₀.objs.size m) (hk : Sub h₀ h₁) : At h₀ Z Z h₀.objs.size [] h₁ m := by
  refine ⟨hn, hk, Nat.le_refl _, fun a o e => hk a o (hz a o e), ?_, fun _ _ e => e, fun _ _ _ e => e, fun _ h => (nomatch h), List.nodup_nil⟩
  cases q : Z.get? h₀.objs.size with
  | none => rfl
  | some o => exact absurd (Heap.lt_size (hz _ _ q)) (Nat.lt_irrefl _)

theorem grown (a : At h₀ Z₀ Z L Ms h m) : Grown h₀ Z₀ h Z := ⟨a.keep, a.z0, a.z, a.new⟩

theorem store (a : At h₀ Z₀ Z L Ms h m) (hn : h'.Ns L m') (hs : Heap.SameBut L h h') : At h₀ Z₀ Z L Ms h' m' := by
  refine ⟨hn, fun b o e => (hs.2 b (a.base_ne e)).trans (a.keep b o e), a.above, fun b o e => (hs.2 b ?_).trans (a.z b o e), a.zL, a.z0, a.new, fun p hp => ?_, a.nd⟩
  · rintro rfl; rw [a.zL] at e; cases e
  · obtain ⟨e, r⟩ := a.ms p hp
    exact ⟨(hs.2 _ r.1).trans e, r⟩

theorem ext (a : At h₀ Z₀ Z L Ms h m) (hk : Sub h h') : At h₀ Z₀ Z L Ms h' m :=
  ⟨a.ns.keeps hk, fun b o e => hk b o (a.keep b o e), a.above, fun b o e => hk b o (a.z b o e), a.zL, a.z0, a.new, fun p hp => ⟨hk _ _ (a.ms p hp).1, (a.ms p hp).2⟩, a.nd⟩

theorem call {Z' : Heap} (a : At h₀ Z₀ Z L Ms h m) (g : Grown h Z h' Z') : At h₀ Z₀ Z' L Ms h' m := by
  refine ⟨a.ns.keeps g.keep, fun b o e => g.keep b o (a.keep b o e), a.above, g.z, ?_, fun b o e => g.z0 b o (a.z0 b o e), fun b o e n => ?_, fun p hp => ?_, a.nd⟩
  · obtain ⟨o, e⟩ := a.live; exact g.new L o e a.zL
  · exact g.new b o (a.keep b o e) (a.new b o e n)
  · obtain ⟨e, n, n0, nz⟩ := a.ms p hp
    exact ⟨g.keep _ _ e, n, n0, g.new _ _ e nz⟩

theorem push (a : At h₀ Z₀ Z L Ms h m) (o : Obj) : At h₀ Z₀ Z L Ms (h.push o) m := a.ext fun _ _ e => Heap.get?_push_of_some o e

theorem dead {b : Addr} (hb : h.get? b = none) (a : At h₀ Z₀ Z L Ms h m) : b ≠ L ∧ h₀.get? b = none ∧ Z.get? b = none ∧ ∀ p ∈ Ms, p.1 ≠ b := by
  refine ⟨?_, ?_, ?_, ?_⟩
  · rintro rfl; obtain ⟨o, e⟩ := a.live; rw [hb] at e; cases e
  · cases q : h₀.get? b with
    | none => rfl
    | some o => rw [a.keep b o q] at hb; cases hb
  · cases q : Z.get? b with
    | none => rfl
    | some o => rw [a.z b o q] at hb; cases hb
  · rintro p hp rfl; rw [(a.ms p hp).1] at hb; cases hb
theorem size_none (h : Heap) : h.get? h.objs.size = none := by
  cases q : h.get? h.objs.size with
  | none => rfl
  | some o => exact absurd (Heap.lt_size q) (Nat.lt_irrefl _)

/-- a new object that the call may change -/
theorem made (a : At h₀ Z₀ Z L Ms h m) (o : Obj) (ho : o.isFreed = false) : At h₀ Z₀ Z L ((h.objs.size, o) :: Ms) (h.push o) m := by
  obtain ⟨n1, n2, n3, n4⟩ := dead (size_none h) a
  have b := a.push o
  refine ⟨b.ns, b.keep, b.above, b.z, b.zL, b.z0, b.new, fun p hp => ?_, ?_⟩
  · rcases List.mem_cons.mp hp with rfl | hp
    · exact ⟨Heap.get?_push_size _ ho, n1, n2, n3⟩
    · exact b.ms p hp
  · rw [List.map_cons, List.nodup_cons]
    refine ⟨fun q => ?_, b.nd⟩
    obtain ⟨p, hp, e⟩ := List.mem_map.mp q
    exact n4 p hp e

theorem drop {p : Addr × Obj} (a : At h₀ Z₀ Z L (p :: Ms) h m) : At h₀ Z₀ Z L Ms h m :=
  ⟨a.ns, a.keep, a.above, a.z, a.zL, a.z0, a.new, fun q hq => a.ms q (.tail _ hq), (List.nodup_cons.mp a.nd).2⟩
theorem perm {Ns : List (Addr × Obj)} (a : At h₀ Z₀ Z L Ms h m) (q : Ms.Perm Ns) : At h₀ Z₀ Z L Ns h m :=
  ⟨a.ns, a.keep, a.above, a.z, a.zL, a.z0, a.new, fun p hp => a.ms p (q.mem_iff.mpr hp), (q.map _).nodup_iff.mp a.nd⟩
theorem swap {p q : Addr × Obj} (a : At h₀ Z₀ Z L (p :: q :: Ms) h m) : At h₀ Z₀ Z L (q :: p :: Ms) h m := a.perm (.swap ..)
theorem head {p : Addr × Obj} (a : At h₀ Z₀ Z L (p :: Ms) h m) : h.get? p.1 = some p.2 := (a.ms p (.head _)).1

theorem upd {D : Addr} {o o' : Obj} (a : At h₀ Z₀ Z L ((D, o) :: Ms) h m) (hs : Heap.SameBut D h h') (ho : h'.get? D = some o') : At h₀ Z₀ Z L ((D, o') :: Ms) h' m := by
  obtain ⟨e, n1, n2, n3⟩ := a.ms (D, o) (.head _)
  have nd := List.nodup_cons.mp a.nd
  refine ⟨a.ns.sameBut hs (Ne.symm n1), fun b x q => (hs.2 b ?_).trans (a.keep b x q), a.above, fun b x q => (hs.2 b ?_).trans (a.z b x q), a.zL, a.z0, a.new, fun p hp => ?_, a.nd⟩
  · rintro rfl; rw [n2] at q; cases q
  · rintro rfl; rw [n3] at q; cases q
  · rcases List.mem_cons.mp hp with rfl | hp
    · exact ⟨ho, n1, n2, n3⟩
    · obtain ⟨e', r⟩ := a.ms p (.tail _ hp)
      exact ⟨(hs.2 _ fun q => nd.1 (List.mem_map.mpr ⟨p, hp, q⟩)).trans e', r⟩
/-- the object at the ledger's head goes on by ExtBut alone (an iterator at its end) -/
theorem endBut {D : Addr} {o : Obj} (a : At h₀ Z₀ Z L ((D, o) :: Ms) h m) (hs : Heap.ExtBut D h h') : At h₀ Z₀ Z L Ms h' m := by
  obtain ⟨e, n1, n2, n3⟩ := a.ms (D, o) (.head _)
  have nd := List.nodup_cons.mp a.nd
  refine ⟨a.ns.extBut hs (Ne.symm n1), fun b x q => hs b x ?_ (a.keep b x q), a.above, fun b x q => hs b x ?_ (a.z b x q), a.zL, a.z0, a.new, fun p hp => ?_, nd.2⟩
  · rintro rfl; rw [n2] at q; cases q
  · rintro rfl; rw [n3] at q; cases q
  · obtain ⟨e', r⟩ := a.ms p (.tail _ hp)
    exact ⟨hs _ _ (fun q => nd.1 (List.mem_map.mpr ⟨p, hp, q⟩)) e', r⟩

/-- all that the call has made and will not change may be frozen -/
theorem freeze (a : At h₀ Z₀ Z L Ms h m) : ∃ Z', Sub Z Z' ∧ At h₀ Z₀ Z' L Ms h m ∧ ∀ b o, h.get? b = some o → h₀.get? b = none → b ≠ L → (∀ p ∈ Ms, p.1 ≠ b) → Z'.get? b = some o := by
  let P : Addr → Prop := fun b => (Z.get? b).isSome = true ∨ (h₀.get? b = none ∧ b ≠ L ∧ ∀ p ∈ Ms, p.1 ≠ b)
  refine ⟨cut h P, fun b o e => cut_get.mpr ⟨a.z b o e, .inl (by rw [e]; rfl)⟩, ⟨a.ns, a.keep, a.above, fun b o e => (cut_get.mp e).1, cut_none ?_, fun b o e => ?_, fun b o e n => cut_none ?_, fun p hp => ?_, a.nd⟩, fun b o e n0 nL nM => cut_get.mpr ⟨e, .inr ⟨n0, nL, nM⟩⟩⟩
  · rintro (q | q)
    · rw [a.zL] at q; cases q
    · exact q.2.1 rfl
  · exact cut_get.mpr ⟨a.z b o (a.z0 b o e), .inl (by rw [a.z0 b o e]; rfl)⟩
  · rintro (q | q)
    · rw [a.new b o e n] at q; cases q
    · rw [e] at q; cases q.1
  · obtain ⟨e, n1, n2, n3⟩ := a.ms p hp
    refine ⟨e, n1, n2, cut_none ?_⟩
    rintro (q | q)
    · rw [n3] at q; cases q
    · exact q.2.2 p hp rfl
/-- the object at the ledger's head is frozen -/
theorem freezeHead {D : Addr} {o : Obj} (a : At h₀ Z₀ Z L ((D, o) :: Ms) h m) : ∃ Z', Sub Z Z' ∧ At h₀ Z₀ Z' L Ms h m ∧ Z'.get? D = some o := by
  obtain ⟨e, n1, n2, n3⟩ := a.ms (D, o) (.head _)
  have nd := List.nodup_cons.mp a.nd
  obtain ⟨Z', s, b, f⟩ := a.drop.freeze
  exact ⟨Z', s, b, f D o e n2 n1 fun p hp q => nd.1 (List.mem_map.mpr ⟨p, hp, q⟩)⟩
/-- a new object that is frozen at once -/
theorem frozen (a : At h₀ Z₀ Z L Ms h m) (o : Obj) (ho : o.isFreed = false) : ∃ Z', Sub Z Z' ∧ At h₀ Z₀ Z' L Ms (h.push o) m ∧ Z'.get? h.objs.size = some o := (a.made o ho).freezeHead
end At
end Mine

namespace Mine
open PySem PyProof.Rows PySem.Calls

/-! the data that values read as -/
def Rd (Z : Heap) (v : Value) (d : PyData) : Prop := ∃ as, Reads Z v d as
def RdAll (Z : Heap) (vs : List Value) (ds : List PyData) : Prop := ∃ as, ReadsAll Z vs ds as

theorem Rd.mono {Z Z' : Heap} (hs : Sub Z Z') {v : Value} {d : PyData} (h : Rd Z v d) : Rd Z' v d := let ⟨as, r⟩ := h; ⟨as, PyProof.Rows.Reads.keeps hs r⟩
theorem RdAll.mono {Z Z' : Heap} (hs : Sub Z Z') {v : List Value} {d : List PyData} (h : RdAll Z v d) : RdAll Z' v d := let ⟨as, r⟩ := h; ⟨as, PyProof.Rows.ReadsAll.keeps hs r⟩
theorem RdAll.nil {Z : Heap} : RdAll Z [] [] := ⟨_, .nil⟩
theorem RdAll.cons {Z : Heap} {v : Value} {d : PyData} {vs : List Value} {ds : List PyData} (h : Rd Z v d) (t : RdAll Z vs ds) : RdAll Z (v :: vs) (d :: ds) :=
  let ⟨_, a⟩ := h; let ⟨_, b⟩ := t; ⟨_, .cons a b⟩
theorem RdAll.uncons {Z : Heap} {vs : List Value} {d : PyData} {ds : List PyData} (h : RdAll Z vs (d :: ds)) : ∃ v r, vs = v :: r ∧ Rd Z v d ∧ RdAll Z r ds := by
  obtain ⟨_, h⟩ := h
  cases h with
  | cons a b => exact ⟨_, _, rfl, ⟨_, a⟩, ⟨_, b⟩⟩
theorem RdAll.unnil {Z : Heap} {vs : List Value} (h : RdAll Z vs []) : vs = [] := by obtain ⟨_, h⟩ := h; cases h; rfl
theorem RdAll.length {Z : Heap} {vs : List Value} {ds : List PyData} (h : RdAll Z vs ds) : vs.length = ds.length := let ⟨_, h⟩ := h; PySem.SeqAt.ReadsAll.length _ _ _ h
theorem RdAll.append {Z : Heap} : ∀ {vs ws : List Value} {ds es : List PyData}, RdAll Z vs ds → RdAll Z ws es → RdAll Z (vs ++ ws) (ds ++ es)
  | _, ws, [], es, h, k => by rw [h.unnil]; exact k
  | _, ws, d :: ds, es, h, k => by
    obtain ⟨v, r, rfl, a, b⟩ := h.uncons
    exact .cons a (RdAll.append b k)
theorem RdAll.one {Z : Heap} {v : Value} {d : PyData} (h : Rd Z v d) : RdAll Z [v] [d] := .cons h .nil
theorem RdAll.get {Z : Heap} : ∀ {vs : List Value} {ds : List PyData}, RdAll Z vs ds → ∀ {i : Nat} {d : PyData}, ds[i]? = some d → ∃ v, vs[i]? = some v ∧ Rd Z v d
  | _, [], h, i, d, e => by simp at e
  | _, d' :: ds, h, 0, d, e => by
    obtain ⟨v, r, rfl, a, b⟩ := h.uncons
    simp only [List.getElem?_cons_zero, Option.some.injEq] at e
    subst e; exact ⟨v, rfl, a⟩
  | _, d' :: ds, h, i + 1, d, e => by
    obtain ⟨v, r, rfl, a, b⟩ := h.uncons
    simp only [List.getElem?_cons_succ] at e ⊢
    exact b.get e
theorem RdAll.take {Z : Heap} : ∀ {vs : List Value} {ds : List PyData}, RdAll Z vs ds → ∀ n : Nat, RdAll Z (vs.take n) (ds.take n)
  | _, _, _, 0 => .nil
  | _, [], h, n + 1 => by rw [h.unnil]; exact .nil
  | _, d :: ds, h, n + 1 => by obtain ⟨v, r, rfl, a, b⟩ := h.uncons; exact .cons a (b.take n)
theorem RdAll.drop {Z : Heap} : ∀ {vs : List Value} {ds : List PyData}, RdAll Z vs ds → ∀ n : Nat, RdAll Z (vs.drop n) (ds.drop n)
  | _, _, h, 0 => h
  | _, [], h, n + 1 => by rw [h.unnil]; exact .nil
  | _, d :: ds, h, n + 1 => by obtain ⟨v, r, rfl, a, b⟩ := h.uncons; exact b.drop n

theorem Rd.int {Z : Heap} (i : Int) (t : Tok) : Rd Z (.int i t) (.int i) := ⟨_, .int i t⟩
theorem Rd.str {Z : Heap} (x : Str) (t : Tok) : Rd Z (.str x t) (.str x) := ⟨_, .str x t⟩
theorem Rd.unint {Z : Heap} {v : Value} {i : Int} (h : Rd Z v (.int i)) : ∃ t, v = .int i t := by obtain ⟨_, h⟩ := h; cases h; exact ⟨_, rfl⟩
theorem Rd.unstr {Z : Heap} {v : Value} {x : Str} (h : Rd Z v (.str x)) : ∃ t, v = .str x t := by obtain ⟨_, h⟩ := h; cases h; exact ⟨_, rfl⟩
theorem Rd.unlist {Z : Heap} {v : Value} {ds : List PyData} (h : Rd Z v (.list ds)) : ∃ a vs, v = .ref a ∧ Z.IsList a vs.toArray ∧ RdAll Z vs ds := by
  obtain ⟨_, h⟩ := h
  cases h with
  | @list a o vs n _ as h1 h2 h3 h4 => exact ⟨a, vs.toList, rfl, ⟨o, h1, h2, n, by rw [h3]⟩, ⟨_, h4⟩⟩
theorem Rd.untup {Z : Heap} {v : Value} {ds : List PyData} (h : Rd Z v (.tuple ds)) : ∃ a vs, v = .ref a ∧ IsTup Z a vs.toArray ∧ RdAll Z vs ds := by
  obtain ⟨_, h⟩ := h
  cases h with
  | @tuple a o vs n _ as h1 h2 h3 h4 => exact ⟨a, vs.toList, rfl, ⟨o, h1, h2, n, by rw [h3]⟩, ⟨_, h4⟩⟩
theorem Rd.list {Z : Heap} {a : Addr} {vs : List Value} {ds : List PyData} {n : Nat} (h : Z.get? a = some { cls := .type "list", data := .seq vs.toArray n }) (k : RdAll Z vs ds) : Rd Z (.ref a) (.list ds) :=
  let ⟨_, k⟩ := k; ⟨_, .list h rfl rfl k⟩
theorem Rd.tuple {Z : Heap} {a : Addr} {vs : List Value} {ds : List PyData} {n : Nat} (h : Z.get? a = some { cls := .type "tuple", data := .seq vs.toArray n }) (k : RdAll Z vs ds) : Rd Z (.ref a) (.tuple ds) :=
  let ⟨_, k⟩ := k; ⟨_, .tuple h rfl rfl k⟩
theorem isList_mono {Z h : Heap} (hs : Sub Z h) {a : Addr} {its : Array Value} (x : Z.IsList a its) : h.IsList a its := let ⟨o, e, r⟩ := x; ⟨o, hs a o e, r⟩
theorem isTup_mono {Z h : Heap} (hs : Sub Z h) {a : Addr} {its : Array Value} (x : IsTup Z a its) : IsTup h a its := let ⟨o, e, r⟩ := x; ⟨o, hs a o e, r⟩

/-! what the program's top holds: names, functions -/
abbrev fnD (name : Str) (params : Arguments) (body : List Stmt) (scope : Scope) (pm cd doc ct : Value) (an : Option Addr) : FuncData :=
  { name, qualname := name, params, body := .stmts body, scope, globals := mainGlobals, closure := [], defaults := .none, kwdefaults := .none, doc, pyModule := pm, annotations := an, code := cd, closureTuple := ct, builtins := builtinsNs }
def FnAt (h : Heap) (f : Addr) (name : Str) (params : Arguments) (body : List Stmt) (scope : Scope) : Prop :=
  ∃ o pm cd doc ct an, h.get? f = some o ∧ o.data = .func (fnD name params body scope pm cd doc ct an) ∧ h.CodeRec cd name
theorem FnAt.mono {h h' : Heap} (hs : Sub h h') {f : Addr} {name : Str} {params : Arguments} {body : List Stmt} {scope : Scope} (x : FnAt h f name params body scope) : FnAt h' f name params body scope :=
  let ⟨o, pm, cd, doc, ct, an, e, d, c⟩ := x; ⟨o, pm, cd, doc, ct, an, hs _ _ e, d, c.keeps hs⟩

/-! locals -/
def up (m : Str → Option Value) (x : Str) (v : Value) : Str → Option Value := fun y => if y = x then some v else m y
/-- a local holds an int -/
def IntAt (m : Str → Option Value) (x : Str) (n : Int) : Prop := ∃ t, m x = some (.int n t)
theorem up_self {m : Str → Option Value} {x : Str} {v : Value} : up m x v x = some v := if_pos rfl
theorem up_ne {m : Str → Option Value} {x y : Str} {v : Value} {w : Option Value} (h : y ≠ x) (k : m y = w) : up m x v y = w := (if_neg h).trans k

section
variable {M : Model} {A : Around} {E : Value → Shared → Prop} {env : Env} {h₀ Z₀ Z : Heap} {Ms : List (Addr × Obj)} {h : Heap} {m : Str → Option Value} {r : Shared} {tk : Nat}

theorem nm {x : Str} {pos : Pos} {v : Value} {Q : Value → Shared → Prop} (a : At h₀ Z₀ Z env.locals Ms h m) (hv : m x = some v) (k : Q v (St r h tk))
    (hk : env.scope.kind = .function := by rfl) (hl : env.kindOf x = some .local := by rfl) (hd : (x == ("__debug__" : Str)) = false := by decide) :
    wpAny M A (eval (.Name x pos) env) Q E (St r h tk) := wpAny_Name (wpAny_loadName_local hk hl a.ns hv k) hd

theorem sto {x : Str} {v : Value} {Q : Unit → Shared → Prop} (a : At h₀ Z₀ Z env.locals Ms h m) (k : ∀ h', At h₀ Z₀ Z env.locals Ms h' (up m x v) → Q () (St r h' (tk + 1)))
    (hk : env.scope.kind = .function := by rfl) (hl : env.kindOf x = some .local := by rfl) : wpAny M A (storeName env x v) Q E (St r h tk) :=
  wpAny_storeName_local hl a.ns (fun h' hn hs => k h' (a.store hn hs)) (by rw [hk]; rfl)

theorem asg {x : Str} {pos' : Pos} {value : Expr} {pos : Pos} {Q : Flow → Shared → Prop} {s : Shared}
    (k : wpAny M A (eval value env) (fun v s₁ => wpAny M A (storeName env x v) (fun _ => Q .next) E s₁) E s)
    (hs : swapsWith value (some (.Name x pos')) pos.line env = pure false := by rfl) : wpAny M A (exec (.Assign [.Name x pos'] value pos) env) Q E s := wpAny_Assign_Name k hs

theorem gname {mg : Str → Option Value} {x : Str} {pos : Pos} {v : Value} {Q : Value → Shared → Prop} (g : h.Ns env.globals mg) (hv : mg x = some v) (k : Q v (St r h tk))
    (hk : env.scope.kind = .function := by rfl) (hx : env.kindOf x = some .globalImplicit := by rfl) (hd : (x == ("__debug__" : Str)) = false := by decide) :
    wpAny M A (eval (.Name x pos) env) Q E (St r h tk) := Name_function_global hk hx (loadGlobal_global g hv k) hd
theorem bname {mg mb : Str → Option Value} {x : Str} {pos : Pos} {v : Value} {Q : Value → Shared → Prop} (g : h.Ns env.globals mg) (hm : mg x = none) (b : h.Ns env.builtins mb) (hv : mb x = some v) (k : Q v (St r h tk))
    (hk : env.scope.kind = .function := by rfl) (hx : env.kindOf x = some .globalImplicit := by rfl) (hd : (x == ("__debug__" : Str)) = false := by decide) :
    wpAny M A (eval (.Name x pos) env) Q E (St r h tk) := Name_function_global hk hx (loadGlobal_builtin g hm b hv k) hd

theorem cint {i : Int} {k : Nat} {pos : Pos} {Q : Value → Shared → Prop} (q : Q (.int i tk) (St r h (tk + 1))) : wpAny M A (eval (.Constant (.int i) k pos) env) Q E (St r h tk) := wpAny_Constant_int q
theorem cstr {x : Str} {k : Nat} {pos : Pos} {Q : Value → Shared → Prop} (q : Q (.str x tk) (St r h (tk + 1))) : wpAny M A (eval (.Constant (.str x) k pos) env) Q E (St r h tk) := wpAny_Constant_str q

theorem newL {vs : List Value} {Q : Value → Shared → Prop} (k : Q (.ref h.objs.size) (St r (h.push { cls := .type "list", data := .seq vs.toArray }) tk)) (hsz : vs.length ≤ sizeLine := by size_fits) :
    wpAny M A (newList vs) Q E (St r h tk) := wpAny_newList k hsz
theorem newT {vs : List Value} {Q : Value → Shared → Prop} (k : Q (.ref h.objs.size) (St r (h.push { cls := .type "tuple", data := .seq vs.toArray }) tk)) (hsz : vs.length ≤ sizeLine := by size_fits) :
    wpAny M A (newTuple vs) Q E (St r h tk) := wpAny_newTuple k hsz
end

section
variable {prog : Program} {w : World} {A : Around} {E : Value → Shared → Prop} {env : Env} {h₀ Z₀ Z : Heap} {L : Addr} {Ms : List (Addr × Obj)} {h : Heap} {m : Str → Option Value} {r : Shared} {tk : Nat}

/-- an item of a list -/
theorem itL {value slice : Expr} {l : Value} {ds : List PyData} {k : Int} {u : Tok} {d : PyData} {Q : Value → Shared → Prop} (hs : Sub Z h) (hl : Rd Z l (.list ds)) (h0 : 0 ≤ k) (hfit : k < 2 ^ 63) (hx : ds[k.toNat]? = some d)
    (q : ∀ v, Rd Z v d → Q v (St r h tk))
    (hsb : ∀ a, subscripted slice false (.ref a) (.int k u) = operate [.ref a, .int k u] (getItem (.ref a) (.int k u)) := by intro _; with_unfolding_all rfl) :
    wpAny (model prog w) A (subscriptTail value slice l (.int k u)) Q E (St r h tk) := by
  obtain ⟨a, vs, rfl, il, ra⟩ := hl.unlist
  obtain ⟨v, hv, rv⟩ := ra.get hx
  have il' := isList_mono hs il
  exact tail_any (Heap.IsList.typeIs (s := St r h tk) il') list_getitem_lookup (wpAny_getItem_list il' h0 hfit (by simpa using hv) (q v rv)) (hsb a)
/-- an item of a tuple at a written place -/
theorem itT {value slice : Expr} {l : Value} {ds : List PyData} {k : Int} {u : Tok} {d : PyData} {Q : Value → Shared → Prop} (hs : Sub Z h) (hl : Rd Z l (.tuple ds)) (h0 : 0 ≤ k) (hfit : k < 2 ^ 63) (hx : ds[k.toNat]? = some d)
    (q : ∀ v, Rd Z v d → Q v (St r h tk))
    (hsb : ∀ a, subscripted slice false (.ref a) (.int k u) = operate [.ref a, .int k u] (getItem (.ref a) (.int k u)) := by intro _; with_unfolding_all rfl) :
    wpAny (model prog w) A (subscriptTail value slice l (.int k u)) Q E (St r h tk) := by
  obtain ⟨a, vs, rfl, il, ra⟩ := hl.untup
  obtain ⟨v, hv, rv⟩ := ra.get hx
  have hlt : k.toNat < vs.length := (List.getElem?_eq_some_iff.mp hv).1
  have it' := isTup_mono hs il
  refine tail_any (IsTup.typeIs (s := St r h tk) it') slot_tuple_getitem.lookup (getItem_tuple (s := St r h tk) it' (by omega) hfit (j := k.toNat) ?_ (by simpa using hv) (q v rv)) (hsb a)
  unfold seqIndex?
  have e : ¬ k < 0 := by omega
  have e2 : k < (vs.length : Int) := by omega
  simp [e, h0, e2]

/-- a slice of a list: a new list -/
theorem slL {value slice : Expr} {l : Addr} {its : Array Value} {vl vu : Value} {lo hi : Option Int} {Q : Value → Shared → Prop} (il : h.IsList l its) (pl : IsPart vl lo) (pu : IsPart vu hi)
    (q : Q (.ref (h.objs.size + 1)) (St r ((h.push { cls := .type "slice", data := .fields #[vl, vu, .none] }).push { cls := .type "list", data := .seq (slicePick its lo hi none) }) tk))
    (hs : subscripted slice false (.ref l) (.ref h.objs.size) = operate [.ref h.objs.size, .ref l] (getItem (.ref l) (.ref h.objs.size)) := by with_unfolding_all rfl)
    (hsz : its.size ≤ sizeLine := by size_fits) :
    wpAny (model prog w) A (subscriptTail value slice (.ref l) (.ref h.objs.size)) Q E (St r (h.push { cls := .type "slice", data := .fields #[vl, vu, .none] }) tk) := by
  refine tail_any (Heap.IsList.typeIs (s := St r (h.push { cls := .type "slice", data := .fields #[vl, vu, .none] }) tk) (il.push _)) list_getitem_lookup
    (wpAny_getItem_list_slice (il.push _) (Heap.IsSliceOf.new ..) pl pu .none (by simp) ?_ hsz) hs
  show Q (.ref (h.push _).objs.size) _
  rw [Heap.size_push]
  exact q

/-- two lists joined: a new list -/
theorem addL {l b : Addr} {vs ws : List Value} {Q : Value → Shared → Prop} (hl : h.IsList l vs.toArray) (hb : h.IsList b ws.toArray)
    (q : Q (.ref h.objs.size) (St r (h.push { cls := .type "list", data := .seq (vs ++ ws).toArray }) tk))
    (hsz : vs.length + ws.length ≤ sizeLine) : wpAny (model prog w) A (binaryOp .Add (.ref l) (.ref b)) Q E (St r h tk) := by
  obtain ⟨⟨cls, dd, data, sl⟩, ho, hc, n, hd⟩ := id hl
  obtain ⟨⟨cls2, dd2, data2, sl2⟩, ho2, hc2, n2, hd2⟩ := id hb
  simp only at hc hd hc2 hd2
  subst hc hd hc2 hd2
  have e : vs.toArray ++ ws.toArray = (vs ++ ws).toArray := by simp
  refine concat_meets ⟨_, ho, rfl⟩ ⟨_, ho2, rfl⟩ noFill_list_add seq_list_add PySem.F.slot_list_add PySem.F.entry_list_add (PySem.F.args_list_add_2 _ _) (list_addW l b vs.toArray ws.toArray n n2 dd dd2 sl sl2 (by simpa using hsz)) ⟨ho, ho2, ?_⟩
  rw [e]
  exact q

/-- the ledger's head grows by one item -/
theorem appM {D : Addr} {its : Array Value} {n : Nat} {x : Value} {Q : Value → Shared → Prop} (a : At h₀ Z₀ Z L ((D, { cls := .type "list", data := .seq its n }) :: Ms) h m)
    (q : ∀ h', At h₀ Z₀ Z L ((D, { cls := .type "list", data := .seq (its.push x) (n + 1) }) :: Ms) h' m → Q .none (St r h' tk)) (hsz : its.size ≤ sizeLine := by size_fits) :
    wpAny (model prog w) A (call (.builtin "list.append") [.ref D, x]) Q E (St r h tk) :=
  append_at (s := St r h tk) (hsz := hsz) a.head fun h' hs ho' => q h' (a.upd hs ho')

/-! tests -/
theorem cutIf {test : Expr} {body orelse : List Stmt} {pos : Pos} {Q : Flow → Shared → Prop} (b : Bool)
    (h1 : wpAny (model prog w) A (PySem.isTrue test env (eval test env)) (fun c s' => c = b ∧ ∃ tk', s' = St r h tk') (fun _ _ => False) (St r h tk))
    (ht : b = true → ∀ tk', wpAny (model prog w) A (execs body env) Q E (St r h tk')) (hf : b = false → ∀ tk', wpAny (model prog w) A (execs orelse env) Q E (St r h tk')) :
    wpAny (model prog w) A (exec (.If test body orelse pos) env) Q E (St r h tk) := by
  refine wpAny_If (wpAny_mono h1 (fun c s' q => ?_) fun _ _ q => q.elim)
  obtain ⟨rfl, tk', rfl⟩ := q
  cases c with
  | true => rw [if_pos rfl]; exact ht rfl tk'
  | false => rw [if_neg Bool.false_ne_true]; exact hf rfl tk'
theorem ifT {b : Bool} {P Q : Prop} (h : b = true) (p : P) : if b = true then P else Q := by rw [if_pos h]; exact p
theorem ifF {b : Bool} {P Q : Prop} (h : b = false) (p : Q) : if b = true then P else Q := by rw [if_neg (by rw [h]; exact Bool.false_ne_true)]; exact p
theorem trB {M : Model} {A : Around} {E : Value → Shared → Prop} {s : Shared} {b : Bool} {Q : Bool → Shared → Prop} (c : Bool) (h : b = c) (q : Q c s) : wpAny M A (truthy (.bool b)) Q E s := by subst h; exact wpAny_truthy_bool q
theorem beqS (x y : Str) : (x == y) = decide (x = y) := by
  by_cases h : x = y
  · subst h; simp
  · rw [decide_eq_false h]; exact beq_eq_false_iff_ne.mpr h

/-! dicts of ints to data -/
/-- a dict of the heap H: its pairs, and what the values read as in Z -/
def RdD (prog : Program) (w : World) (H Z : Heap) (v : Value) (d : List (Int × PyData)) : Prop :=
  ∃ a kvs, v = .ref a ∧ (a == sysModules) = false ∧ H.DictOf (intKind prog w) a kvs ∧ kvs.map (·.1) = d.map (·.1) ∧ RdAll Z (kvs.map (·.2)) (d.map (·.2))
theorem dictOf_mono {prog : Program} {w : World} {Z Z' : Heap} (hs : Sub Z Z') {a : Addr} {kvs : List (Int × Value)} (h : Z.DictOf (intKind prog w) a kvs) : Z'.DictOf (intKind prog w) a kvs := Heap.DictOf.keep h hs
theorem RdD.mono {H H' Z' : Heap} (hH : Sub H H') (hs : Sub Z Z') {v : Value} {d : List (Int × PyData)} (x : RdD prog w H Z v d) : RdD prog w H' Z' v d :=
  let ⟨a, kvs, e, n, o, k, l⟩ := x; ⟨a, kvs, e, n, dictOf_mono hH o, k, l.mono hs⟩

def lookD (d : List (Int × PyData)) (k : Int) : Option PyData := (d.find? fun kv => kv.1 = k).map (·.2)
theorem valueAt_look : ∀ {kvs : List (Int × Value)} {d : List (Int × PyData)}, kvs.map (·.1) = d.map (·.1) → RdAll Z (kvs.map (·.2)) (d.map (·.2)) → ∀ k,
    (∃ v x, valueAt kvs k = some v ∧ lookD d k = some x ∧ Rd Z v x) ∨ (valueAt kvs k = none ∧ lookD d k = none)
  | [], [], _, _, k => .inr ⟨rfl, rfl⟩
  | [], _ :: _, e, _, _ => by cases e
  | _ :: _, [], e, _, _ => by cases e
  | (a, v) :: kvs, (b, x) :: d, e, l, k => by
    simp only [List.map_cons, List.cons.injEq] at e
    obtain ⟨rfl, e⟩ := e
    rw [List.map_cons, List.map_cons] at l
    obtain ⟨v', r', e', l1, l2⟩ := l.uncons
    obtain ⟨rfl, rfl⟩ := List.cons.inj e'
    unfold valueAt lookD
    rw [List.find?_cons, List.find?_cons]
    by_cases h : a = k
    · subst h; exact .inl ⟨v, x, by simp, by simp, l1⟩
    · simp only [h, decide_false]
      exact valueAt_look e l2 k

theorem inD {key : Int} {u : Tok} {dv : Value} {d : List (Int × PyData)} {Q : Value → Shared → Prop} {H : Heap} (hs : Sub H h) (hd : RdD prog w H Z dv d) (q : Q (.bool (lookD d key).isSome) (St r h (tk + 1))) :
    wpAny (model prog w) A (compareOp .In (.int key u) dv) Q E (St r h tk) := by
  obtain ⟨a, kvs, rfl, n, o, k, l⟩ := hd
  refine wpAny_in_of (s := St r h tk) (intKind_is prog w key u) n (dictOf_mono hs o).mapOf ?_
  rcases valueAt_look k l key with ⟨v, x, e1, e2, _⟩ | ⟨e1, e2⟩ <;> (rw [e1]; rw [e2] at q; exact q)
theorem getD {value slice : Expr} {key : Int} {u : Tok} {dv : Value} {d : List (Int × PyData)} {x : PyData} {Q : Value → Shared → Prop} {H : Heap} (hs : Sub H h) (hd : RdD prog w H Z dv d) (hx : lookD d key = some x)
    (q : ∀ v, Rd Z v x → Q v (St r h (tk + 1)))
    (hsb : ∀ a, subscripted slice false (.ref a) (.int key u) = operate [.ref a, .int key u] (getItem (.ref a) (.int key u)) := by intro _; with_unfolding_all rfl) :
    wpAny (model prog w) A (subscriptTail value slice dv (.int key u)) Q E (St r h tk) := by
  obtain ⟨a, kvs, rfl, n, o, k, l⟩ := hd
  have o' := dictOf_mono hs o
  rcases valueAt_look k l key with ⟨v, y, e1, e2, rv⟩ | ⟨e1, e2⟩
  · rw [e2] at hx; cases hx
    exact tail_any (Heap.DictOf.typeIs (s := St r h tk) o') slot_dict_getitem.lookup (wpAny_getItem_of (s := St r h tk) (intKind_is prog w key u) o'.mapOf e1 (q v rv)) (hsb a)
  · rw [e2] at hx; cases hx
theorem lenD {dv : Value} {d : List (Int × PyData)} {Q : Value → Shared → Prop} {H : Heap} (hs : Sub H h) (hd : RdD prog w H Z dv d) (hfit : (d.length : Int) < 2 ^ 63)
    (q : ∀ t tk', Q (.int d.length t) (St r h tk')) : wpAny (model prog w) A (call (.builtin "len") [dv]) Q E (St r h tk) := by
  obtain ⟨a, kvs, rfl, n, o, k, l⟩ := hd
  have e : kvs.length = d.length := by have := congrArg List.length k; simpa using this
  refine call_len_dict (s := St r h tk) n (dictOf_mono hs o) (by rw [e]; exact hfit) ?_
  rw [e]; exact q _ _
theorem lenL {l : Value} {ds : List PyData} {Q : Value → Shared → Prop} (hs : Sub Z h) (hl : Rd Z l (.list ds)) (hfit : (ds.length : Int) < 2 ^ 63)
    (q : ∀ t tk', Q (.int ds.length t) (St r h tk')) : wpAny (model prog w) A (call (.builtin "len") [l]) Q E (St r h tk) := by
  obtain ⟨a, vs, rfl, il, ra⟩ := hl.unlist
  have e := ra.length
  refine call_len_list (s := St r h tk) (isList_mono hs il) (by rw [List.size_toArray, e]; exact hfit) ?_
  simp only [List.size_toArray, e]; exact q _ _
end

/-! loops -/
theorem At.midBut {h₀ Z₀ Z : Heap} {L : Addr} {Ms T : List (Addr × Obj)} {h h' : Heap} {m : Str → Option Value} {I : Addr} {o o' : Obj} (a : At h₀ Z₀ Z L (Ms ++ (I, o) :: T) h m) (hs : Heap.ExtBut I h h') (ho : h'.get? I = some o') :
    At h₀ Z₀ Z L (Ms ++ (I, o') :: T) h' m := by
  have b := a.perm List.perm_middle
  obtain ⟨e, n1, n2, n3⟩ := b.ms (I, o) (.head _)
  have nd := List.nodup_cons.mp b.nd
  have c : At h₀ Z₀ Z L ((I, o') :: (Ms ++ T)) h' m := by
    refine ⟨b.ns.extBut hs (Ne.symm n1), fun x y q => hs x y ?_ (b.keep x y q), b.above, fun x y q => hs x y ?_ (b.z x y q), b.zL, b.z0, b.new, fun p hp => ?_, b.nd⟩
    · rintro rfl; rw [n2] at q; cases q
    · rintro rfl; rw [n3] at q; cases q
    · rcases List.mem_cons.mp hp with rfl | hp
      · exact ⟨ho, n1, n2, n3⟩
      · obtain ⟨e', rr⟩ := b.ms p (.tail _ hp)
        exact ⟨hs _ _ (fun q => nd.1 (List.mem_map.mpr ⟨p, hp, q⟩)) e', rr⟩
  exact c.perm List.perm_middle.symm

/-- what a turn of a loop must leave -/
def TurnEnd (r : Shared) (h₀ Z₀ Z : Heap) (L : Addr) (T : List (Addr × Obj)) (J : Heap → List (Addr × Obj) → (Str → Option Value) → Prop) (Q : Flow → Shared → Prop) (f : Flow) (s' : Shared) : Prop :=
  match f with
  | .ret v => Q (.ret v) s'
  | .brk => Q .next s'
  | _ => ∃ Z' Ms' h' m' tk', s' = St r h' tk' ∧ Sub Z Z' ∧ At h₀ Z₀ Z' L (Ms' ++ T) h' m' ∧ J Z' Ms' m'

theorem TurnEnd.next {r : Shared} {h₀ Z₀ Z : Heap} {L : Addr} {T : List (Addr × Obj)} {J : Heap → List (Addr × Obj) → (Str → Option Value) → Prop} {Q : Flow → Shared → Prop} {Z' : Heap} {Ms' : List (Addr × Obj)} {h' : Heap} {m' : Str → Option Value} {tk' : Nat}
    (hz : Sub Z Z') (a : At h₀ Z₀ Z' L (Ms' ++ T) h' m') (j : J Z' Ms' m') : TurnEnd r h₀ Z₀ Z L T J Q .next (St r h' tk') := ⟨Z', Ms', h', m', tk', rfl, hz, a, j⟩
theorem Sub.refl (h : Heap) : Sub h h := fun _ _ e => e

section
variable {prog : Program} {w : World} {A : Around} {E : Value → Shared → Prop} {env : Env} {h₀ Z₀ Z : Heap} {Ms T : List (Addr × Obj)} {h : Heap} {m : Str → Option Value} {r : Shared} {tk : Nat}

theorem for_walk {x : Str} {px : Pos} {body : List Stmt} {I : Addr} {fp : List Addr} {n : Nat} {P : Nat → Value → Prop} {SI : Nat → Heap → Prop} {Q : Flow → Shared → Prop} {R : Result → Shared → Prop} {o : Obj}
    (W : Walks prog w A I fp [I] n P SI) (live : ∀ i h, SI i h → ∃ o, h.get? I = some o)
    (J : Nat → Heap → List (Addr × Obj) → (Str → Option Value) → Prop)
    (a : At h₀ Z₀ Z env.locals (Ms ++ (I, o) :: T) h m) (si : SI 0 h) (hfp : ∀ b ∈ fp, b = I ∨ ∃ x, Z.get? b = some x) (j0 : J 0 Z Ms m)
    (turn : ∀ i v Z' Ms' T' h' m' tk', i < n → P i v → Sub Z Z' → J i Z' Ms' m' → At h₀ Z₀ Z' env.locals (Ms' ++ T') h' (up m' x v) →
      wpAny (model prog w) A (execs body env) (TurnEnd r h₀ Z₀ Z' env.locals T' (J (i + 1)) Q) (fun _ _ => False) (St r h' tk'))
    (done : ∀ Z' Ms' h' m' tk', Sub Z Z' → J n Z' Ms' m' → At h₀ Z₀ Z' env.locals (Ms' ++ T) h' m' → Q .next (St r h' tk'))
    (hR : ∀ f s', Q f s' → R (.ok f) s')
    (hk : env.scope.kind = .function := by rfl) (hl : env.kindOf x = some .local := by rfl) :
    codeAny (model prog w) A (.forLoop (.Name x px) (.ref I) body [] env) R (St r h tk) := by
  refine codeAny_forLoop
    (fun k s' => ∃ Z' Ms' h' m' tk' i o', s' = St r h' tk' ∧ Sub Z Z' ∧ At h₀ Z₀ Z' env.locals (Ms' ++ (I, o') :: T) h' m' ∧ SI i h' ∧ J i Z' Ms' m' ∧ i ≤ n ∧ k = n + 1 - i) ?_ (n + 1)
    ⟨Z, Ms, h, m, tk, 0, o, rfl, fun _ _ e => e, a, si, j0, Nat.zero_le _, rfl⟩
  rintro k s' ⟨Z', Ms', h', m', tk', i, o', rfl, hz, a', si', j', hi, rfl⟩
  by_cases hlt : i < n
  · refine W.item i _ _ _ hlt si' fun v h₁ tk₁ hP si₁ hk₁ => ?_
    obtain ⟨o₁, ho₁⟩ := live _ _ si₁
    have a₁ := a'.midBut (fun b y hb e => hk₁ b y (fun hm => hb (List.mem_singleton.mp hm)) e) ho₁
    refine wpAny_assign_Name (sto (r := r) (tk := tk₁) a₁ (fun h₂ a₂ => ?_) hk hl)
    refine wpAny_mono (turn i v Z' Ms' ((I, o₁) :: T) h₂ m' (tk₁ + 1) hlt hP hz j' a₂) (fun f s₃ h₃ => ?_) fun _ _ e => e.elim
    have fin : (∃ Z'' Ms'' h'' m'' tk'', s₃ = St r h'' tk'' ∧ Sub Z' Z'' ∧ At h₀ Z₀ Z'' env.locals (Ms'' ++ (I, o₁) :: T) h'' m'' ∧ J (i + 1) Z'' Ms'' m'') → ∃ k, k < n + 1 - i ∧
        ∃ Z' Ms' h' m' tk' i o', s₃ = St r h' tk' ∧ Sub Z Z' ∧ At h₀ Z₀ Z' env.locals (Ms' ++ (I, o') :: T) h' m' ∧ SI i h' ∧ J i Z' Ms' m' ∧ i ≤ n ∧ k = n + 1 - i := by
      rintro ⟨Z'', Ms'', h'', m'', tk'', rfl, hz', a₃, j₃⟩
      refine ⟨n + 1 - (i + 1), by omega, Z'', Ms'', h'', m'', tk'', i + 1, o₁, rfl, fun b y e => hz' b y (hz b y e), a₃, ?_, j₃, hlt, rfl⟩
      have keepI : h''.get? I = some o₁ := (a₃.ms (I, o₁) (List.mem_append.mpr (.inr (.head _)))).1
      have si₂ : SI (i + 1) h'' := by
        refine W.frame _ _ _ si₁ fun b hb y e => ?_
        rcases hfp b hb with rfl | ⟨y', hy'⟩
        · rw [ho₁] at e; cases e; exact keepI
        · have e1 := a'.z b y' (hz b y' hy')
          have hbI : b ≠ I := by
            rintro rfl
            have := (a'.ms (b, o') (List.mem_append.mpr (.inr (.head _)))).2.2.2
            rw [hz b y' hy'] at this; cases this
          have e2 := hk₁ b y' (fun hm => hbI (List.mem_singleton.mp hm)) e1
          rw [e2] at e; cases e
          exact a₃.z b _ (hz' b _ (hz b _ hy'))
      exact si₂
    cases f with
    | next => exact fin h₃
    | cont => exact fin h₃
    | brk => exact hR _ _ h₃
    | ret v => exact hR _ _ h₃
  · have e : i = n := by omega
    subst e
    refine W.done _ _ _ si' fun h₁ tk₁ hk₁ => wpAny_execs_nil (hR _ _ ?_)
    exact done Z' Ms' h₁ m' tk₁ hz j' ((a'.perm List.perm_middle).endBut fun b y hb e => hk₁ b y (fun hm => hb (List.mem_singleton.mp hm)) e)

/-- for over a frozen list -/
theorem for_list {x : Str} {px : Pos} {body : List Stmt} {vl : Value} {ds : List PyData} {Q : Flow → Shared → Prop} (hh : A.handled = none)
    (J : Nat → Heap → List (Addr × Obj) → (Str → Option Value) → Prop)
    (hz : Sub Z h) (hl : Rd Z vl (.list ds)) (a : At h₀ Z₀ Z env.locals (Ms ++ T) h m) (j0 : J 0 Z Ms m)
    (turn : ∀ i v d Z' Ms' T' h' m' tk', ds[i]? = some d → Rd Z' v d → Sub Z Z' → J i Z' Ms' m' → At h₀ Z₀ Z' env.locals (Ms' ++ T') h' (up m' x v) →
      wpAny (model prog w) A (execs body env) (TurnEnd r h₀ Z₀ Z' env.locals T' (J (i + 1)) Q) (fun _ _ => False) (St r h' tk'))
    (done : ∀ Z' Ms' h' m' tk', Sub Z Z' → J ds.length Z' Ms' m' → At h₀ Z₀ Z' env.locals (Ms' ++ T) h' m' → Q .next (St r h' tk'))
    (hk : env.scope.kind = .function := by rfl) (hlx : env.kindOf x = some .local := by rfl) :
    wpAny (model prog w) A (pyIter vl) (fun it s₂ => codeAny (model prog w) A (.forLoop (.Name x px) it body [] env) (fun r s' => match r with | .ok f => Q f s' | .error e => cameBackBy (model prog w) A env E e s') s₂) E (St r h tk) := by
  obtain ⟨l, vs, rfl, il, ra⟩ := hl.unlist
  have il' := isList_mono hz il
  obtain ⟨ol, hol, hcl⟩ := id il
  have hlt : h.get? l = some ol := hz l ol hol
  have hne : l ≠ h.objs.size := Nat.ne_of_lt (Heap.lt_size hlt)
  refine wpAny_pyIter_list il' ?_
  have W := Walks.list (prog := prog) (w := w) hh h.objs.size l hne vs.toArray
  have a1 : At h₀ Z₀ Z env.locals (Ms ++ (h.objs.size, { cls := .type "list_iterator", data := .fields #[.ref l, .int 0 0] }) :: T) (h.push { cls := .type "list_iterator", data := .fields #[.ref l, .int 0 0] }) m :=
    (a.made { cls := .type "list_iterator", data := .fields #[.ref l, .int 0 0] } rfl).perm List.perm_middle.symm
  refine for_walk (Q := Q) W (fun i h s => let ⟨⟨o, e, _⟩, _⟩ := s; ⟨o, e⟩) J a1 ⟨⟨_, Heap.get?_push_size _ rfl, rfl, rfl⟩, il'.push _⟩ ?_ j0 ?_ ?_ (fun f s' q => q) hk hlx
  · intro b hb
    rcases List.mem_cons.mp hb with rfl | hb
    · exact .inl rfl
    · exact .inr ⟨ol, by rw [List.mem_singleton.mp hb]; exact hol⟩
  · intro i v Z' Ms' T' h' m' tk' hi hP hz' j' a'
    have hi' : i < ds.length := by have := ra.length; simpa [this] using hi
    obtain ⟨v', hv', rv⟩ := ra.get (i := i) (d := ds[i]) (by simp [hi'])
    have : v = v' := by
      have hP' : vs[i]? = some v := by simpa using hP
      rw [hv'] at hP'; exact (Option.some.inj hP').symm
    subst this
    exact turn i v _ Z' Ms' T' h' m' tk' (by simp [hi']) (rv.mono hz') hz' j' a'
  · intro Z' Ms' h' m' tk' hz' j' a'
    have e : vs.toArray.size = ds.length := by simpa using ra.length
    rw [e] at j'
    exact done Z' Ms' h' m' tk' hz' j' a'
end
end Mine

namespace Mine
open PySem PyProof.Rows PySem.Calls

/-! the program's functions -/
def fnParts : Option Stmt → Str × Arguments × List Stmt × Scope
  | some (.FunctionDef name args body _ _ _ scope _ _ _) => (name, args, body, scope)
  | _ => ("", { posonlyargs := [], args := [], vararg := none, kwonlyargs := [], kw_defaults := [], kwarg := none, defaults := [] }, [], { kind := .function, names := [], isGenerator := false, isCoroutine := false, more := [] })
def theFn (i : Nat) : Str × Arguments × List Stmt × Scope := fnParts (PySem.Challenge.pw_pd_principal_3_03.main.body[i]?)
def nameF (i : Nat) : Str := (theFn i).1
def paramsF (i : Nat) : Arguments := (theFn i).2.1
def bodyF (i : Nat) : List Stmt := (theFn i).2.2.1
def scopeF (i : Nat) : Scope := (theFn i).2.2.2


/-! types as lists of pairs -/
def mkS (b : Bool) : Str := match b with
  | true => "pair"
  | false => "fun"
def Ty.enc : Ty → List (Str × Int)
  | .var n => [("var", n)]
  | .int => [("int", 0)]
  | .node m l r => l.enc ++ r.enc ++ [(mkS m, 0)]
def itD (p : Str × Int) : PyData := .tuple [.str p.1, .int p.2]
def lD (l : List (Str × Int)) : PyData := .list (l.map itD)
def tyD (t : Ty) : PyData := lD t.enc
def dD (d : Dc) : List (Int × PyData) := d.map fun p => (p.1, tyD p.2)

theorem lookD_dD (d : Dc) (k : Int) : lookD (dD d) k = (look d k).map tyD := by
  unfold lookD look dD
  induction d with
  | nil => rfl
  | cons p d ih =>
    rw [List.map_cons, List.find?_cons, List.find?_cons]
    by_cases h : p.1 = k
    · simp [h]
    · simp only [h, decide_false]; exact ih

def onceIt (d : Dc) (it : Str × Int) : List (Str × Int) := if it.1 = "var" then (match look d it.2 with | some T => T.enc | none => [it]) else [it]
theorem once_enc (d : Dc) : ∀ t : Ty, t.enc.flatMap (onceIt d) = (t.subst d).enc
  | .var n => by
    show onceIt d ("var", n) ++ [] = ((look d n).getD (.var n)).enc
    rw [List.append_nil]
    unfold onceIt
    rw [if_pos rfl]
    show (match look d n with | some T => T.enc | none => [("var", n)]) = _
    cases look d n <;> rfl
  | .int => by
    show onceIt d ("int", 0) ++ [] = _
    rw [List.append_nil]
    unfold onceIt
    rw [if_neg (by decide)]; rfl
  | .node m l r => by
    show (l.enc ++ r.enc ++ [(mkS m, 0)]).flatMap (onceIt d) = (l.subst d).enc ++ (r.subst d).enc ++ [(mkS m, 0)]
    rw [List.flatMap_append, List.flatMap_append, once_enc d l, once_enc d r]
    congr 1
    show onceIt d (mkS m, 0) ++ [] = _
    rw [List.append_nil]
    unfold onceIt
    rw [if_neg (by cases m <;> decide)]

/-! the call of a def of the program -/
section
variable {prog : Program} {w : World} {A : Around} {E : Value → Shared → Prop} {Z h : Heap} {r : Shared} {tk : Nat}

theorem callF {f : Addr} {name : Str} {params : Arguments} {body : List Stmt} {scope : Scope} {vs : List Value} {binds : List (Str × Value)} {Q : Value → Shared → Prop}
    (fn : FnAt h f name params body scope) (hlim : h.NoLimit) (hroom : A.depth < recursionLimit) (hz : Sub Z h)
    (hbind : ∀ pm cd doc ct an, bindArgs (fnD name params body scope pm cd doc ct an) ⟨vs, []⟩ = pure binds)
    (hloc : (binds.all fun x => decide (scope.names.lookup x.1 = some .local)) = true) (hcell : ∀ x ∈ scope.names, x.2 ≠ .cell)
    (k : ∀ cd h₁ tk₁, At h Z Z h.objs.size [] h₁ (fun x => binds.reverse.lookup x) →
      wpAny (model prog w) (A.deeper (envOf name scope h.objs.size f cd)) (execs body (envOf name scope h.objs.size f cd)) (fun fl s' => Q (match fl with | .ret v => v | _ => .none) s') (fun _ _ => False) (St r h₁ tk₁))
    (hco : scope.isCoroutine = false := by rfl) (hgen : scope.isGenerator = false := by rfl) (hk : scope.kind = .function := by rfl) :
    wpAny (model prog w) A (call (.ref f) vs) Q E (St r h tk) := by
  obtain ⟨o, pm, cd, doc, ct, an, e, d, c⟩ := fn
  refine wpAny_call (codeAny_call_def (s := St r h tk) (fd := fnD name params body scope pm cd doc ct an) (binds := binds) hroom e d hlim c rfl (BindsTo.of_eq (hbind pm cd doc ct an)) hcell (locs hloc) (fun h₁ hns hk₁ => ?_) hco hgen hk)
  exact wpAny_mono (k cd h₁ _ (At.start hz hns hk₁)) (fun fl s' q => q) fun _ _ x => x.elim
end
end Mine

namespace Mine
open PySem PyProof.Rows PySem.Calls
set_option maxRecDepth 100000

/-! room around a call -/
structure Amb (A : Around) (d u : Nat) : Prop where
  hh : A.handled = none
  depth : A.depth + d < recursionLimit
  units : A.units + u < cLine
theorem Amb.deeper {A : Around} {d u : Nat} (a : Amb A (d + 1) (u + 3)) (env : Env) : Amb (A.deeper env) d u :=
  ⟨a.hh, by have := a.depth; show A.depth + 1 + d < _; omega, by have := a.units; show A.units + 3 + u < _; omega⟩
theorem Amb.room {A : Around} {d u : Nat} (a : Amb A d u) : A.depth < recursionLimit := by have := a.depth; omega
theorem Amb.le {A : Around} {d u d' u' : Nat} (a : Amb A d u) (hd : d' ≤ d) (hu : u' ≤ u) : Amb A d' u' := ⟨a.hh, by have := a.depth; omega, by have := a.units; omega⟩

/-! the top's names -/
structure Gl (mg mb : Str → Option Value) (h : Heap) : Prop where
  g : h.Ns mainGlobals mg
  b : h.Ns builtinsNs mb
  nolimit : h.NoLimit
  miss : ∀ x ∈ (["len", "range", "sorted", "isinstance", "dict"] : List Str), mg x = none
  blen : mb "len" = some (.builtin "len")
  brange : mb "range" = some (.type "range")
  bsorted : mb "sorted" = some (.builtin "sorted")
  bisinstance : mb "isinstance" = some (.builtin "isinstance")
  bdict : mb "dict" = some (.type "dict")
  fn : ∀ i ∈ ([4, 5, 6, 7, 8, 12, 13, 14, 15, 16, 17] : List Nat), ∃ f, mg (nameF i) = some (.ref f) ∧ FnAt h f (nameF i) (paramsF i) (bodyF i) (scopeF i)
theorem Gl.mono {mg mb : Str → Option Value} {h h' : Heap} (hs : Sub h h') (x : Gl mg mb h) : Gl mg mb h' :=
  ⟨x.g.keeps hs, x.b.keeps hs, x.nolimit.keeps hs, x.miss, x.blen, x.brange, x.bsorted, x.bisinstance, x.bdict, fun i hi => let ⟨f, e, q⟩ := x.fn i hi; ⟨f, e, q.mono hs⟩⟩

section
variable {prog : Program} {w : World} {M : Model} {A : Around} {E : Value → Shared → Prop} {env : Env} {h₀ Z₀ Z : Heap} {L : Addr} {Ms T : List (Addr × Obj)} {h : Heap} {m mg mb : Str → Option Value} {r : Shared} {tk : Nat}

/-- a def of the program is called by its name -/
theorem gcall {x : Str} {p pos : Pos} {e : Expr} {rest : List Expr} {f : Addr} {name : Str} {params : Arguments} {body : List Stmt} {scope : Scope} {Q : Value → Shared → Prop} (g : h.Ns env.globals mg) (hx : mg x = some (.ref f))
    (fn : FnAt h f name params body scope)
    (k : wpAny M A (spliced (backTo pos (starEach (e :: rest) env))) (fun vs s₁ => (∀ o, h.get? f = some o → s₁.heap.get? f = some o) ∧ wpAny M A (call (.ref f) vs) Q E s₁) E (St r h tk))
    (he : starEach (e :: rest) env = (false, eval e env) :: starEach rest env := by rfl)
    (hk : env.scope.kind = .function := by rfl) (hxk : env.kindOf x = some .globalImplicit := by rfl) (hd : (x == ("__debug__" : Str)) = false := by decide) :
    wpAny M A (eval (.Call (.Name x p) (e :: rest) [] pos) env) Q E (St r h tk) := by
  obtain ⟨o, pm, cd, doc, ct, an, e1, d1, c1⟩ := fn
  exact Call_ (gname g hx (callWith_def d1 (wpAny_mono k (fun vs s₁ q => ⟨q.1 o e1, q.2⟩) fun _ _ q => q) he) hk hxk hd)
theorem bcall {x : Str} {id : String} {p pos : Pos} {e : Expr} {rest : List Expr} {Q : Value → Shared → Prop} (g : h.Ns env.globals mg) (hm : mg x = none) (b : h.Ns env.builtins mb) (hv : mb x = some (.builtin id))
    (k : wpAny M A (spliced (backTo pos (starEach (e :: rest) env))) (fun vs s₁ => wpAny M A (call (.builtin id) vs) Q E s₁) E (St r h tk))
    (he : starEach (e :: rest) env = (false, eval e env) :: starEach rest env := by rfl) (hplain : (backTo pos (starEach rest env)).any (·.1) = false := by rfl)
    (hk : env.scope.kind = .function := by rfl) (hxk : env.kindOf x = some .globalImplicit := by rfl) (hd : (x == ("__debug__" : Str)) = false := by decide) :
    wpAny M A (eval (.Call (.Name x p) (e :: rest) [] pos) env) Q E (St r h tk) :=
  Call_ (bname g hm b hv (callWith_builtin1 k he hplain) hk hxk hd)
theorem tcall {x : Str} {id : String} {p pos : Pos} {e : Expr} {rest : List Expr} {Q : Value → Shared → Prop} (g : h.Ns env.globals mg) (hm : mg x = none) (b : h.Ns env.builtins mb) (hv : mb x = some (.type id))
    (k : wpAny M A (spliced (backTo pos (starEach (e :: rest) env))) (fun vs s₁ => wpAny M A (call (.type id) vs) Q E s₁) E (St r h tk))
    (he : starEach (e :: rest) env = (false, eval e env) :: starEach rest env := by rfl) (hplain : (backTo pos (starEach rest env)).any (·.1) = false := by rfl)
    (hk : env.scope.kind = .function := by rfl) (hxk : env.kindOf x = some .globalImplicit := by rfl) (hd : (x == ("__debug__" : Str)) = false := by decide) :
    wpAny M A (eval (.Call (.Name x p) (e :: rest) [] pos) env) Q E (St r h tk) :=
  Call_ (bname g hm b hv (callWith_type1 k he hplain) hk hxk hd)

/-- for over range(N) -/
theorem for_range {x : Str} {px : Pos} {body : List Stmt} {N : Int} {t : Tok} {Q : Flow → Shared → Prop} (hh : A.handled = none) (hlo : -(2 ^ 62) ≤ N) (hhi : N < 2 ^ 62)
    (J : Nat → Heap → List (Addr × Obj) → (Str → Option Value) → Prop)
    (a : At h₀ Z₀ Z env.locals (Ms ++ T) h m) (j0 : J 0 Z Ms m)
    (turn : ∀ i t Z' Ms' T' h' m' tk', i < N.toNat → Sub Z Z' → J i Z' Ms' m' → At h₀ Z₀ Z' env.locals (Ms' ++ T') h' (up m' x (.int (i : Int) t)) →
      wpAny (model prog w) A (execs body env) (TurnEnd r h₀ Z₀ Z' env.locals T' (J (i + 1)) Q) (fun _ _ => False) (St r h' tk'))
    (done : ∀ Z' Ms' h' m' tk', Sub Z Z' → J N.toNat Z' Ms' m' → At h₀ Z₀ Z' env.locals (Ms' ++ T) h' m' → Q .next (St r h' tk'))
    (hk : env.scope.kind = .function := by rfl) (hlx : env.kindOf x = some .local := by rfl) :
    wpAny (model prog w) A (call (.type "range") [.int N t]) (fun xv s₁ => wpAny (model prog w) A (pyIter xv) (fun it s₂ => codeAny (model prog w) A (.forLoop (.Name x px) it body [] env) (fun r s' => match r with | .ok f => Q f s' | .error e => cameBackBy (model prog w) A env E e s') s₂) E s₁) E (St r h tk) := by
  refine call_range_1 (s := St r h tk) ?_
  refine wpAny_pyIter_range (IsRange.new ..) (small_one (by decide) (by decide) hlo hhi) ?_
  have hsz : Builtin.Range.rangeSize 0 N 1 = (N.toNat : Int) := by rw [rangeSize_one]; split <;> omega
  have W := Walks.range (prog := prog) (w := w) hh (h.objs.size + 1) 0 1 N.toNat
  rw [hsz]
  have a1 := a.push { cls := .type "range", data := .fields #[.int 0 tk, .int N t, .int 1 (tk + 1)] }
  have a2 := (a1.made { cls := .type "range_iterator", data := .fields #[rawInt 0, rawInt (N.toNat : Int), rawInt 1] } rfl).perm List.perm_middle.symm
  have hsize : (h.push { cls := .type "range", data := .fields #[.int 0 tk, .int N t, .int 1 (tk + 1)] }).objs.size = h.objs.size + 1 := Heap.size_push ..
  have hI := Heap.get?_push_size (h.push { cls := .type "range", data := .fields #[.int 0 tk, .int N t, .int 1 (tk + 1)] }) (o := { cls := .type "range_iterator", data := .fields #[rawInt 0, rawInt (N.toNat : Int), rawInt 1] }) rfl
  rw [hsize] at a2 hI
  show codeAny _ _ (.forLoop _ (.ref (h.push _).objs.size) _ _ _) _ _
  rw [hsize]
  refine for_walk (Q := Q) (tk := tk + 1 + 1) W (fun i h s => ⟨_, s⟩) J a2 ?_ ?_ j0 ?_ done (fun f s' q => q) hk hlx
  · show IsRangeIter _ _ (0 + ((0 : Nat) : Int) * 1) ((N.toNat : Int) - ((0 : Nat) : Int)) 1
    have e1 : (0 + ((0 : Nat) : Int) * 1) = 0 := by simp
    have e2 : ((N.toNat : Int) - ((0 : Nat) : Int)) = (N.toNat : Int) := by simp
    rw [e1, e2]; exact hI
  · intro b hb; exact .inl (List.mem_singleton.mp hb)
  · rintro i v Z' Ms' T' h' m' tk' hi ⟨t', rfl⟩ hz' j' a'
    have e : (0 + (i : Int) * 1) = (i : Int) := by simp
    rw [e] at a'
    exact turn i t' Z' Ms' T' h' m' tk' hi hz' j' a'
end

/-! equality of types -/
theorem itD_inj {p q : Str × Int} (h : itD p = itD q) : p = q := by
  unfold itD at h
  simp only [PyData.tuple.injEq, List.cons.injEq, PyData.str.injEq, PyData.int.injEq, and_true] at h
  exact Prod.ext h.1 h.2
theorem eqv_it (p q : Str × Int) : PyData.eqv (itD p) (itD q) = decide (p = q) := by
  unfold itD
  simp only [PyData.eqv, PyData.eqvAll, Bool.and_true, beqS]
  have e : (p.2 == q.2) = decide (p.2 = q.2) := by by_cases h : p.2 = q.2 <;> simp [h]
  rw [e, ← Bool.decide_and]
  congr 1
  exact propext ⟨fun h => Prod.ext h.1 h.2, fun h => by subst h; exact ⟨rfl, rfl⟩⟩
theorem eqv_lD : ∀ l l' : List (Str × Int), PyData.eqvAll (l.map itD) (l'.map itD) = decide (l = l')
  | [], [] => by simp [PyData.eqvAll]
  | [], _ :: _ => by simp [PyData.eqvAll]
  | _ :: _, [] => by simp [PyData.eqvAll]
  | p :: l, q :: l' => by
    rw [List.map_cons, List.map_cons, PyData.eqvAll, eqv_it, eqv_lD l l', ← Bool.decide_and]
    congr 1
    exact propext ⟨fun h => by rw [h.1, h.2], fun h => by injection h with a b; exact ⟨a, b⟩⟩

theorem enc_split : ∀ (t u : Ty) (a b : List (Str × Int)), a ++ t.enc = b ++ u.enc → t = u ∧ a = b := by
  intro t
  have last : ∀ {a b : List (Str × Int)} {x y : Str × Int}, a ++ [x] = b ++ [y] → a = b ∧ x = y := fun e => by
    have := List.append_inj' e rfl
    exact ⟨this.1, by simpa using this.2⟩
  induction t with
  | var n =>
    intro u a b e
    cases u with
    | var k => obtain ⟨h1, h2⟩ := last e; injection h2 with _ h2; subst h2; exact ⟨rfl, h1⟩
    | int => obtain ⟨_, h2⟩ := last e; injection h2 with h2 _; exact absurd h2 (by decide)
    | node k l r =>
      have e' : a ++ [(("var" : Str), n)] = (b ++ (l.enc ++ r.enc)) ++ [(mkS k, 0)] := by rw [List.append_assoc]; exact e
      obtain ⟨_, h2⟩ := last e'; injection h2 with h2 _; exact absurd h2 (by cases k <;> decide)
  | int =>
    intro u a b e
    cases u with
    | var k => obtain ⟨_, h2⟩ := last e; injection h2 with h2 _; exact absurd h2 (by decide)
    | int => exact ⟨rfl, (last e).1⟩
    | node k l r =>
      have e' : a ++ [(("int" : Str), (0 : Int))] = (b ++ (l.enc ++ r.enc)) ++ [(mkS k, 0)] := by rw [List.append_assoc]; exact e
      obtain ⟨_, h2⟩ := last e'; injection h2 with h2 _; exact absurd h2 (by cases k <;> decide)
  | node m l r ihl ihr =>
    intro u a b e
    cases u with
    | var k =>
      have e' : (a ++ (l.enc ++ r.enc)) ++ [(mkS m, 0)] = b ++ [(("var" : Str), k)] := by rw [List.append_assoc]; exact e
      obtain ⟨_, h2⟩ := last e'; injection h2 with h2 _; exact absurd h2 (by cases m <;> decide)
    | int =>
      have e' : (a ++ (l.enc ++ r.enc)) ++ [(mkS m, 0)] = b ++ [(("int" : Str), (0 : Int))] := by rw [List.append_assoc]; exact e
      obtain ⟨_, h2⟩ := last e'; injection h2 with h2 _; exact absurd h2 (by cases m <;> decide)
    | node k l' r' =>
      have e' : (a ++ (l.enc ++ r.enc)) ++ [(mkS m, 0)] = (b ++ (l'.enc ++ r'.enc)) ++ [(mkS k, 0)] := by rw [List.append_assoc a, List.append_assoc b]; exact e
      obtain ⟨h1, h2⟩ := last e'
      injection h2 with h2 _
      have hm : m = k := by cases m <;> cases k <;> first | rfl | exact absurd h2 (by decide)
      subst hm
      rw [← List.append_assoc, ← List.append_assoc] at h1
      obtain ⟨rfl, h3⟩ := ihr r' _ _ h1
      obtain ⟨rfl, h4⟩ := ihl l' _ _ h3
      exact ⟨rfl, h4⟩
theorem enc_inj {t u : Ty} (h : t.enc = u.enc) : t = u := (enc_split t u [] [] h).1
theorem eqv_tyD (t u : Ty) : PyData.eqv (tyD t) (tyD u) = decide (t = u) := by
  show PyData.eqvAll _ _ = _
  rw [eqv_lD]
  congr 1
  exact propext ⟨enc_inj, fun h => by rw [h]⟩

theorem canLayAll_append : ∀ xs ys : List PyData, PyData.canLayAll0 (xs ++ ys) = (PyData.canLayAll0 xs && PyData.canLayAll0 ys)
  | [], ys => by simp [PyData.canLayAll0]
  | x :: xs, ys => by rw [List.cons_append, PyData.canLayAll0, canLayAll_append xs ys, PyData.canLayAll0, Bool.and_assoc]
theorem canLay_enc : ∀ t : Ty, PyData.canLayAll0 (t.enc.map itD) = true
  | .var n => by
    show (PyData.canLay0 (itD ("var", n)) && true) = true
    rw [Bool.and_true]
    show (PyData.canLay0 (.str "var") && (PyData.canLay0 (.int n) && true)) = true
    have e : PyData.canLay0 (.str "var") = true := by decide +kernel
    rw [e]; rfl
  | .int => by decide +kernel
  | .node m l r => by
    show PyData.canLayAll0 ((l.enc ++ r.enc ++ [(mkS m, 0)]).map itD) = true
    rw [List.map_append, List.map_append, canLayAll_append, canLayAll_append, canLay_enc l, canLay_enc r]
    cases m <;> decide +kernel
theorem canLay_tyD (t : Ty) : (tyD t).canLay0 = true := canLay_enc t
theorem depthAll_le {k : Nat} : ∀ xs : List PyData, (∀ x ∈ xs, x.depth ≤ k) → PyData.depthAll xs ≤ k
  | [], _ => Nat.zero_le _
  | x :: xs, h => by rw [PyData.depthAll]; exact Nat.max_le.mpr ⟨h x (.head _), depthAll_le xs fun y hy => h y (.tail _ hy)⟩
theorem depth_it (p : Str × Int) : (itD p).depth = 1 := by simp [itD, PyData.depth, PyData.depthAll]
theorem depth_lD (l : List (Str × Int)) : (lD l).depth ≤ 2 := by
  show PyData.depthAll _ + 1 ≤ 2
  have := depthAll_le (k := 1) (l.map itD) fun x hx => by obtain ⟨p, _, rfl⟩ := List.mem_map.mp hx; exact Nat.le_of_eq (depth_it p)
  omega

section
variable {prog : Program} {w : World} {A : Around} {E : Value → Shared → Prop} {Z : Heap} {h : Heap} {r : Shared} {tk : Nat}
theorem eqTy {v u : Value} {t s : Ty} {Q : Value → Shared → Prop} (hz : Sub Z h) (hv : Rd Z v (tyD t)) (hu : Rd Z u (tyD s)) (hun : A.units + 2 < cLine) (q : Q (.bool (decide (t = s))) (St r h tk)) :
    wpAny (model prog w) A (compareOp .Eq v u) Q E (St r h tk) := by
  obtain ⟨as, hv⟩ := hv.mono hz
  obtain ⟨bs, hu⟩ := hu.mono hz
  refine PySem.SeqAt.compareEq_reads (s := St r h tk) hv hu (canLay_tyD t) (canLay_tyD s) ?_ (by rw [eqv_tyD]; exact q)
  have := depth_lD t.enc
  have : min (tyD t).depth (tyD s).depth ≤ (tyD t).depth := Nat.min_le_left _ _
  have : (tyD t).depth ≤ 2 := depth_lD t.enc
  omega
end
end Mine

namespace Mine
open PySem PyProof.Rows PySem.Calls
set_option maxRecDepth 100000

local macro_rules | `(tactic| walk_at "lk") => `(tactic| first | assumption | exact up_self | (refine up_ne (by decide) ?_; walk_at "lk"))

theorem take_flat {α β : Type} (f : α → List β) (l : List α) (i : Nat) {x : α} (h : l[i]? = some x) : (l.take (i + 1)).flatMap f = (l.take i).flatMap f ++ f x := by
  rw [List.take_add_one, h, List.flatMap_append]; simp
theorem flat_take_le {α β : Type} (f : α → List β) (l : List α) (i : Nat) : ((l.take i).flatMap f).length ≤ (l.flatMap f).length := by
  conv => rhs; rw [← List.take_append_drop i l, List.flatMap_append, List.length_append]
  omega

section
variable {prog : Program} {w : World} {A : Around} {E : Value → Shared → Prop} {Z h : Heap} {r : Shared} {tk : Nat}

theorem once_spec {f : Addr} {vt vs : Value} {T : Ty} {d : Dc} {Q : Value → Shared → Prop} (fn : FnAt h f (nameF 6) (paramsF 6) (bodyF 6) (scopeF 6)) (hlim : h.NoLimit) (hroom : A.depth < recursionLimit) (hh : A.handled = none)
    (hz : Sub Z h) (ht : Rd Z vt (tyD T)) (hd : RdD prog w h Z vs (dD d)) (hsz : (T.subst d).enc.length ≤ 1000000)
    (k : ∀ v h' Z' tk', Grown h Z h' Z' → Rd Z' v (tyD (T.subst d)) → Q v (St r h' tk')) :
    wpAny (model prog w) A (call (.ref f) [vt, vs]) Q E (St r h tk) := by
  refine callF (binds := [("t", vt), ("s", vs)]) fn hlim hroom hz (fun _ _ _ _ _ => rfl) (by rfl) (by decide) (fun cd h₁ tk₁ a => ?_)
  generalize hm : (fun x => List.lookup x [(Str.ofString "t", vt), (Str.ofString "s", vs)].reverse) = m at a
  have mt : m "t" = some vt := by rw [← hm]; rfl
  have ms : m "s" = some vs := by rw [← hm]; rfl
  refine wpAny_execs_cons (asg (List_ (args_nil (newL ?_))))
  have a1 := a.made { cls := .type "list", data := .seq ([] : List Value).toArray } rfl
  refine sto a1 (fun h₂ a2 => ?_)
  refine wpAny_execs_cons (wpAny_For (nm a2 (v := vt) (by walk_at "lk") ?_))
  refine for_list (T := []) (Ms := [(h₁.objs.size, { cls := .type "list", data := .seq ([] : List Value).toArray })]) hh
    (fun i Z' Ms' m' => ∃ D us n, Ms' = [(D, { cls := .type "list", data := .seq us.toArray n })] ∧ m' "out" = some (.ref D) ∧ m' "s" = some vs ∧ RdAll Z' us (((T.enc.take i).flatMap (onceIt d)).map itD)) a2.z ht a2
    ⟨_, [], 0, rfl, by walk_at "lk", by walk_at "lk", .nil⟩ ?_ ?_
  · rintro i v di Z' Ms' T' h' m' tk' hi rv hz' ⟨D, us, n, rfl, mo, ms', ru⟩ a'
    have hz2 := a'.z
    obtain ⟨it, hit, rfl⟩ : ∃ it, T.enc[i]? = some it ∧ itD it = di := by
      rw [List.getElem?_map] at hi
      obtain ⟨it, e, q⟩ := Option.map_eq_some_iff.mp hi
      exact ⟨it, e, q⟩
    have hle : ((T.enc.take (i + 1)).flatMap (onceIt d)).length ≤ 1000000 := by
      refine Nat.le_trans (flat_take_le _ _ _) ?_
      rw [once_enc]; exact hsz
    have hstep := take_flat (onceIt d) T.enc i hit
    have hlen := ru.length
    rw [List.length_map] at hlen
    rw [hstep, List.length_append] at hle
    refine wpAny_execs_cons (cutIf (decide (it.1 = "var") && (look d it.2).isSome) ?_ ?_ ?_)
    · refine isTrue_and (wpAny_isTrue_Compare1 (Subscript_ (nm a' (v := v) (by walk_at "lk") (cint (itT hz2 rv (by decide) (by decide) rfl fun x0 r0 => ?_)))))
      obtain ⟨t0, rfl⟩ := r0.unstr
      refine cstr (eq_str (trB (decide (it.1 = "var")) (beqS _ _) ?_))
      by_cases hv : it.1 = "var"
      · refine ifT (decide_eq_true hv) (isTrue_and (wpAny_isTrue_Compare1 (Subscript_ (nm a' (v := v) (by walk_at "lk") (cint (itT hz2 rv (by decide) (by decide) rfl fun x1 r1 => ?_))))))
        obtain ⟨t1, rfl⟩ := r1.unint
        refine nm a' (v := vs) (by walk_at "lk") (inD a'.keep (hd.mono (Sub.refl _) hz') (trB (look d it.2).isSome ?_ ?_))
        · rw [lookD_dD]; cases look d it.2 <;> rfl
        · rw [decide_eq_true hv, Bool.true_and]
          cases hl : (look d it.2).isSome with
          | true => exact ifT rfl (isTrue_and_nil ⟨rfl, _, rfl⟩)
          | false => exact ifF rfl ⟨rfl, _, rfl⟩
      · exact ifF (decide_eq_false hv) ⟨by rw [decide_eq_false hv]; rfl, _, rfl⟩
    · intro hb tk3
      obtain ⟨hv, hl⟩ := Bool.and_eq_true_iff.mp hb
      have hv := of_decide_eq_true hv
      obtain ⟨U, hU⟩ := Option.isSome_iff_exists.mp hl
      have hone : onceIt d it = U.enc := by unfold onceIt; rw [if_pos hv, hU]
      refine wpAny_execs_cons (asg (wpAny_BinOp (nm a' (v := .ref D) (by walk_at "lk") (Subscript_ (nm a' (v := vs) (by walk_at "lk") (Subscript_ (nm a' (v := v) (by walk_at "lk") (cint (itT hz2 rv (by decide) (by decide) rfl fun x1 r1 => ?_)))))))))
      obtain ⟨t1, rfl⟩ := r1.unint
      refine getD a'.keep (hd.mono (Sub.refl _) hz') (x := tyD U) (by rw [lookD_dD, hU]; rfl) fun y ry => ?_
      obtain ⟨b, ws, rfl, il, rw'⟩ := ry.unlist
      have hwl := rw'.length
      rw [List.length_map] at hwl
      refine addL (vs := us) (ws := ws) ⟨_, a'.head, rfl, _, rfl⟩ (isList_mono hz2 il) ?_ ?_
      · have a3 := (a'.drop.made { cls := .type "list", data := .seq (us ++ ws).toArray } rfl)
        refine sto a3 fun h4 a4 => wpAny_execs_nil (wpAny_execs_nil (TurnEnd.next (Ms' := [_]) (Sub.refl _) a4 ⟨_, us ++ ws, 0, rfl, by walk_at "lk", by walk_at "lk", ?_⟩))
        rw [hstep, hone, List.map_append]; exact ru.append rw'
      · rw [hone] at hle; rw [sizeLine_eq]; omega
    · intro hb tk3
      have hone : onceIt d it = [it] := by
        unfold onceIt
        by_cases hv : it.1 = "var"
        · rw [decide_eq_true hv, Bool.true_and] at hb
          rw [if_pos hv]
          cases hl : look d it.2 with
          | none => rfl
          | some U => rw [hl] at hb; cases hb
        · rw [if_neg hv]
      refine wpAny_execs_cons (wpAny_Expr (wpAny_Call_append (by rfl) (by rfl) (by rfl) (by rfl) (nm a' (v := .ref D) (by walk_at "lk") ⟨D, us.toArray, rfl, ⟨_, n, a'.head, rfl, rfl, rfl⟩, nm a' (v := v) (by walk_at "lk") (appM a' (fun h3 a3 => ?_) ?_)⟩)))
      · refine wpAny_execs_nil (wpAny_execs_nil (TurnEnd.next (Ms' := [_]) (Sub.refl _) a3 ⟨D, us ++ [v], n + 1, by simp, by walk_at "lk", by walk_at "lk", ?_⟩))
        rw [hstep, hone, List.map_append]; exact ru.append (.one rv)
      · rw [sizeLine_eq]; simp only [List.size_toArray]; omega
  · rintro Z' Ms' h' m' tk' hz' ⟨D, us, n, rfl, mo, ms', ru⟩ a'
    refine wpAny_execs_cons (wpAny_Return_some (nm a' (v := .ref D) mo ?_))
    obtain ⟨Z2, hs, a2, hD⟩ := a'.freezeHead
    refine k _ h' Z2 _ a2.grown (Rd.list hD ?_)
    rw [List.length_map, List.take_length, once_enc] at ru
    exact ru.mono hs
end
end Mine

namespace Mine
open PySem PyProof.Rows PySem.Calls
set_option maxRecDepth 100000

local macro_rules | `(tactic| walk_at "lk") => `(tactic| first | assumption | exact up_self | (refine up_ne (by decide) ?_; walk_at "lk"))

theorem iter_succ (d : Dc) : ∀ (i : Nat) (t : Ty), iter d (i + 1) t = (iter d i t).subst d
  | 0, _ => rfl
  | i + 1, t => by show iter d (i + 1) (t.subst d) = _; rw [iter_succ d i]; rfl

section
variable {prog : Program} {w : World} {A : Around} {E : Value → Shared → Prop} {Z h : Heap} {r : Shared} {tk : Nat} {mg mb : Str → Option Value}

theorem apply_spec {f : Addr} {vt vs : Value} {T : Ty} {d : Dc} {Q : Value → Shared → Prop} (g : Gl mg mb h) (fn : FnAt h f (nameF 7) (paramsF 7) (bodyF 7) (scopeF 7)) (am : Amb A 3 20)
    (hz : Sub Z h) (ht : Rd Z vt (tyD T)) (hd : RdD prog w h Z vs (dD d)) (hdl : d.length ≤ 1000000) (hsz : ∀ i, (iter d i T).enc.length ≤ 1000000)
    (k : ∀ v h' Z' tk', Grown h Z h' Z' → Rd Z' v (tyD (applyT d T)) → Q v (St r h' tk')) :
    wpAny (model prog w) A (call (.ref f) [vt, vs]) Q E (St r h tk) := by
  refine callF (binds := [("t", vt), ("s", vs)]) fn g.nolimit am.room hz (fun _ _ _ _ _ => rfl) (by rfl) (by decide) (fun cd h₁ tk₁ a => ?_)
  generalize hm : (fun x => List.lookup x [(Str.ofString "t", vt), (Str.ofString "s", vs)].reverse) = m at a
  have mt : m "t" = some vt := by rw [← hm]; rfl
  have ms : m "s" = some vs := by rw [← hm]; rfl
  have am1 := am.deeper (envOf (nameF 7) (scopeF 7) h.objs.size f cd)
  obtain ⟨l, us, rfl, il, ru⟩ := ht.unlist
  have hT : us.length ≤ 1000000 := by have := ru.length; rw [List.length_map] at this; rw [this]; exact hsz 0
  refine wpAny_execs_cons (asg (Subscript_ (nm a (v := .ref l) (by walk_at "lk") (wpAny_Slice (wpAny_pure (wpAny_pure (wpAny_pure (slL (r := r) (tk := tk₁) (h := h₁) (isList_mono a.z il) .none .none ?_ (by rfl) (by rw [sizeLine_eq]; simp only [List.size_toArray]; omega)))))))))
  rw [slicePick_all]
  obtain ⟨Z1, hs1, a1, e1⟩ := (a.push { cls := .type "slice", data := .fields #[.none, .none, .none] }).frozen { cls := .type "list", data := .seq us.toArray } rfl
  rw [Heap.size_push] at e1
  have rn : Rd Z1 (.ref (h₁.objs.size + 1)) (tyD T) := Rd.list e1 (ru.mono hs1)
  refine sto a1 fun h2 a2 => ?_
  have g2 := g.mono a2.keep
  refine wpAny_execs_cons (wpAny_For (tcall g2.g (g2.miss _ (by decide)) g2.b g2.brange (args_cons (wpAny_BinOp (bcall g2.g (g2.miss _ (by decide)) g2.b g2.blen (args_cons (nm a2 (v := vs) (by walk_at "lk") (args_nil (lenD a2.keep (hd.mono (Sub.refl _) hs1) ?_ fun t3 tk3 => ?_)))))))))
  · simp only [dD, List.length_map]; omega
  refine cint (add_int (args_nil ?_))
  have hlen : ((dD d).length : Int) + 1 = (d.length : Int) + 1 := by simp only [dD, List.length_map]
  rw [hlen]
  refine for_range (r := r) (T := []) (Ms := []) am1.hh (by omega) (by omega)
    (fun i Z' Ms' m' => Ms' = [] ∧ ∃ vn, m' "now" = some vn ∧ m' "s" = some vs ∧ Rd Z' vn (tyD (iter d i T)) ∧ applyT d T = applyLoop d (d.length + 1 - i) (iter d i T)) a2
    ⟨rfl, _, by walk_at "lk", by walk_at "lk", rn, rfl⟩ ?_ ?_
  · rintro i t Z' Ms' T' h' m' tk' hi hz' ⟨rfl, vn, mn, ms', rvn, hap⟩ a'
    have g3 := g.mono a'.keep
    obtain ⟨f6, e6, fn6⟩ := g3.fn 6 (by decide)
    refine wpAny_execs_cons (asg (gcall g3.g e6 fn6 (args_cons (nm a' (v := vn) (by walk_at "lk") (args_cons (nm a' (v := vs) (by walk_at "lk") (args_nil ⟨fun _ e => e, once_spec fn6 g3.nolimit am1.room am1.hh a'.z rvn ((hd.mono a'.keep hs1).mono (Sub.refl _) hz') ?_ fun v h4 Z4 tk4 gr rv => ?_⟩)))))))
    · rw [← iter_succ]; exact hsz _
    have a4 := a'.call gr
    refine sto a4 fun h5 a5 => ?_
    have hi' : i < d.length + 1 := by omega
    have hstep : applyLoop d (d.length + 1 - i) (iter d i T) = if (iter d i T).subst d = iter d i T then (iter d i T).subst d else applyLoop d (d.length + 1 - (i + 1)) (iter d (i + 1) T) := by
      obtain ⟨j, hj⟩ : ∃ j, d.length + 1 - i = j + 1 := ⟨d.length - i, by omega⟩
      have hj' : d.length + 1 - (i + 1) = j := by omega
      rw [hj, hj', iter_succ]; rfl
    refine wpAny_execs_cons (cutIf (decide ((iter d i T).subst d = iter d i T)) ?_ ?_ ?_)
    · exact wpAny_isTrue_Compare1 (nm a5 (v := v) (by walk_at "lk") (nm a5 (v := vn) (by walk_at "lk") (eqTy a5.z rv (rvn.mono gr.z0) (by have := am1.units; omega) (trB _ rfl ⟨rfl, _, rfl⟩))))
    · intro hb tk6
      have hb := of_decide_eq_true hb
      refine wpAny_execs_cons (wpAny_Return_some (nm a5 (v := v) (by walk_at "lk") ?_))
      refine k v h5 Z4 _ a5.grown ?_
      rw [hap, hstep, if_pos hb]; exact rv
    · intro hb tk6
      have hb := of_decide_eq_false hb
      refine wpAny_execs_nil (wpAny_execs_cons (asg (nm a5 (v := v) (by walk_at "lk") (sto a5 fun h7 a7 => ?_))))
      refine wpAny_execs_nil (TurnEnd.next (Ms' := []) gr.z0 a7 ⟨rfl, v, by walk_at "lk", by walk_at "lk", ?_, ?_⟩)
      · rw [iter_succ]; exact rv
      · rw [hap, hstep, if_neg hb]
  · rintro Z' Ms' h' m' tk' hz' ⟨rfl, vn, mn, ms', rvn, hap⟩ a'
    refine wpAny_execs_cons (wpAny_Return_some (nm a' (v := vn) mn ?_))
    refine k vn h' Z' _ a'.grown ?_
    have e : d.length + 1 - ((d.length : Int) + 1).toNat = 0 := by omega
    rw [hap, e]; exact rvn
end
end Mine

namespace Mine
open PySem PyProof.Rows PySem.Calls
set_option maxRecDepth 100000

local macro_rules | `(tactic| walk_at "lk") => `(tactic| first | assumption | exact up_self | (refine up_ne (by decide) ?_; walk_at "lk"))

def intsD (ns : List Int) : PyData := .list (ns.map .int)
theorem ints_rd {Z : Heap} : ∀ {vs : List Value} {ns : List Int}, IntsAre vs ns → RdAll Z vs (ns.map .int)
  | _, _, .nil => .nil
  | _, _, .cons n t h => .cons (Rd.int n t) (ints_rd h)
theorem rd_ints {Z : Heap} : ∀ {vs : List Value} {ns : List Int}, RdAll Z vs (ns.map .int) → IntsAre vs ns
  | _, [], h => by rw [h.unnil]; exact .nil
  | _, n :: ns, h => by
    rw [List.map_cons] at h
    obtain ⟨v, r, rfl, a, b⟩ := h.uncons
    obtain ⟨t, rfl⟩ := a.unint
    exact .cons n t (rd_ints b)
theorem ints_snoc : ∀ {vs : List Value} {ns : List Int}, IntsAre vs ns → ∀ (n : Int) (t : Tok), IntsAre (vs ++ [.int n t]) (ns ++ [n])
  | _, _, .nil, n, t => .cons n t .nil
  | _, _, .cons k u h, n, t => .cons k u (ints_snoc h n t)

def isI (n : Int) : Value → Bool
  | .int a _ => a == n
  | _ => false
theorem any_ints {n : Int} : ∀ {vs : List Value} {ns : List Int}, IntsAre vs ns → vs.any (isI n) = decide (n ∈ ns)
  | _, _, .nil => by simp
  | _, _, .cons k u h => by
    rw [List.any_cons, any_ints h]
    show ((k == n) || _) = _
    by_cases e : k = n
    · subst e; simp
    · have e' : n ≠ k := fun q => e q.symm
      simp [e, e']
theorem mem_ints : ∀ {vs : List Value} {ns : List Int}, IntsAre vs ns → ∀ y ∈ vs, ∃ k t, y = .int k t
  | _, _, .nil, _, h => nomatch h
  | _, _, .cons k u h, y, hy => by
    rcases List.mem_cons.mp hy with rfl | hy
    · exact ⟨k, u, rfl⟩
    · exact mem_ints h y hy

section
variable {prog : Program} {w : World} {A : Around} {E : Value → Shared → Prop} {h : Heap} {r : Shared} {tk : Nat}
theorem inI {l : Addr} {vs : List Value} {ns : List Int} {n : Int} {t : Tok} {Q : Value → Shared → Prop} (hl : h.IsList l vs.toArray) (hi : IntsAre vs ns) (q : Q (.bool (decide (n ∈ ns))) (St r h tk)) :
    wpAny (model prog w) A (compareOp .In (.int n t) (.ref l)) Q E (St r h tk) := by
  refine PySem.SeqAt.in_listAt (s := St r h tk) (isI n) hl (fun y hy => ?_) (by have := any_ints (n := n) hi; simp only [List.any_toArray] ; rw [this]; exact q)
  obtain ⟨k, u, rfl⟩ := mem_ints hi y (by simpa using hy)
  exact PySem.SeqAt.EqAt.int_int k u n t
theorem notInI {l : Addr} {vs : List Value} {ns : List Int} {n : Int} {t : Tok} {Q : Value → Shared → Prop} (hl : h.IsList l vs.toArray) (hi : IntsAre vs ns) (q : Q (.bool (!decide (n ∈ ns))) (St r h tk)) :
    wpAny (model prog w) A (compareOp .NotIn (.int n t) (.ref l)) Q E (St r h tk) := by
  refine PySem.SeqAt.notIn_listAt (s := St r h tk) (isI n) hl (fun y hy => ?_) (by have := any_ints (n := n) hi; simp only [List.any_toArray] ; rw [this]; exact q)
  obtain ⟨k, u, rfl⟩ := mem_ints hi y (by simpa using hy)
  exact PySem.SeqAt.EqAt.int_int k u n t
end

theorem mem_vars : ∀ (T : Ty) (n : Int), n ∈ T.vars ↔ (("var" : Str), n) ∈ T.enc
  | .var k, n => by
    show n ∈ [k] ↔ _ ∈ [(("var" : Str), k)]
    simp
  | .int, n => by
    show n ∈ [] ↔ _ ∈ [(("int" : Str), (0 : Int))]
    constructor
    · intro h; cases h
    · intro h; have := List.mem_singleton.mp h; injection this with a _; exact absurd a (by decide)
  | .node m l r, n => by
    show n ∈ l.vars ++ r.vars ↔ _ ∈ l.enc ++ r.enc ++ [(mkS m, 0)]
    rw [List.mem_append, mem_vars l n, mem_vars r n, List.mem_append, List.mem_append]
    constructor
    · exact .inl
    · rintro (h | h)
      · exact h
      · have := List.mem_singleton.mp h; injection this with a _; exact absurd a (by cases m <;> decide)

section
variable {prog : Program} {w : World} {A : Around} {E : Value → Shared → Prop} {Z h : Heap} {r : Shared} {tk : Nat} {mg mb : Str → Option Value}

theorem vars_spec {f : Addr} {vt : Value} {T : Ty} {Q : Value → Shared → Prop} (g : Gl mg mb h) (fn : FnAt h f (nameF 5) (paramsF 5) (bodyF 5) (scopeF 5)) (am : Amb A 3 20)
    (hz : Sub Z h) (ht : Rd Z vt (tyD T)) (hsz : T.enc.length < 64)
    (k : ∀ v ns h' Z' tk', Grown h Z h' Z' → Rd Z' v (intsD ns) → (∀ n, n ∈ ns ↔ n ∈ T.vars) → Q v (St r h' tk')) :
    wpAny (model prog w) A (call (.ref f) [vt]) Q E (St r h tk) := by
  refine callF (binds := [("t", vt)]) fn g.nolimit am.room hz (fun _ _ _ _ _ => rfl) (by rfl) (by decide) (fun cd h₁ tk₁ a => ?_)
  generalize hm : (fun x => List.lookup x [(Str.ofString "t", vt)].reverse) = m at a
  have mt : m "t" = some vt := by rw [← hm]; rfl
  have am1 := am.deeper (envOf (nameF 5) (scopeF 5) h.objs.size f cd)
  refine wpAny_execs_cons (asg (List_ (args_nil (newL ?_))))
  have a1 := a.made { cls := .type "list", data := .seq ([] : List Value).toArray } rfl
  refine sto a1 (fun h₂ a2 => ?_)
  refine wpAny_execs_cons (wpAny_For (nm a2 (v := vt) (by walk_at "lk") ?_))
  refine for_list (T := []) (Ms := [(h₁.objs.size, { cls := .type "list", data := .seq ([] : List Value).toArray })]) am1.hh
    (fun i _ Ms' m' => ∃ D us n ns, Ms' = [(D, { cls := .type "list", data := .seq us.toArray n })] ∧ m' "met" = some (.ref D) ∧ IntsAre us ns ∧ ns.length ≤ i ∧ (∀ n, n ∈ ns ↔ (("var" : Str), n) ∈ T.enc.take i)) a2.z ht a2
    ⟨_, [], 0, [], rfl, by walk_at "lk", .nil, Nat.le_refl _, fun n => by simp⟩ ?_ ?_
  · rintro i v di Z' Ms' T' h' m' tk' hi rv hz' ⟨D, us, n, ns, rfl, mo, hus, hlen, hmem⟩ a'
    have hz2 := a'.z
    obtain ⟨it, hit, rfl⟩ : ∃ it, T.enc[i]? = some it ∧ itD it = di := by
      rw [List.getElem?_map] at hi
      obtain ⟨it, e, q⟩ := Option.map_eq_some_iff.mp hi
      exact ⟨it, e, q⟩
    have hil : i < T.enc.length := (List.getElem?_eq_some_iff.mp hit).1
    have hul : us.length = ns.length := hus.length
    have htake : T.enc.take (i + 1) = T.enc.take i ++ [it] := by rw [List.take_add_one, hit]; rfl
    refine wpAny_execs_cons (cutIf (decide (it.1 = "var") && !decide (it.2 ∈ ns)) ?_ ?_ ?_)
    · refine isTrue_and (wpAny_isTrue_Compare1 (Subscript_ (nm a' (v := v) (by walk_at "lk") (cint (itT hz2 rv (by decide) (by decide) rfl fun x0 r0 => ?_)))))
      obtain ⟨t0, rfl⟩ := r0.unstr
      refine cstr (eq_str (trB (decide (it.1 = "var")) (beqS _ _) ?_))
      by_cases hv : it.1 = "var"
      · refine ifT (decide_eq_true hv) (isTrue_and (wpAny_isTrue_Compare1 (Subscript_ (nm a' (v := v) (by walk_at "lk") (cint (itT hz2 rv (by decide) (by decide) rfl fun x1 r1 => ?_))))))
        obtain ⟨t1, rfl⟩ := r1.unint
        refine nm a' (v := .ref D) (by walk_at "lk") (notInI ⟨_, a'.head, rfl, _, rfl⟩ hus (trB _ rfl ?_))
        rw [decide_eq_true hv, Bool.true_and]
        cases hl : !decide (it.2 ∈ ns) with
        | true => exact ifT rfl (isTrue_and_nil ⟨rfl, _, rfl⟩)
        | false => exact ifF rfl ⟨rfl, _, rfl⟩
      · exact ifF (decide_eq_false hv) ⟨by rw [decide_eq_false hv]; rfl, _, rfl⟩
    · intro hb tk3
      obtain ⟨hv, hl⟩ := Bool.and_eq_true_iff.mp hb
      have hv := of_decide_eq_true hv
      refine wpAny_execs_cons (wpAny_Expr (wpAny_Call_append (by rfl) (by rfl) (by rfl) (by rfl) (nm a' (v := .ref D) (by walk_at "lk") ⟨D, us.toArray, rfl, ⟨_, n, a'.head, rfl, rfl, rfl⟩, Subscript_ (nm a' (v := v) (by walk_at "lk") (cint (itT hz2 rv (by decide) (by decide) rfl fun x1 r1 => ?_)))⟩)))
      obtain ⟨t1, rfl⟩ := r1.unint
      refine appM a' (fun h3 a3 => ?_) ?_
      · refine wpAny_execs_nil (wpAny_execs_nil (TurnEnd.next (Ms' := [_]) (Sub.refl _) a3 ⟨D, us ++ [.int it.2 t1], n + 1, ns ++ [it.2], by simp, by walk_at "lk", ints_snoc hus _ _, by simp; omega, fun x => ?_⟩))
        rw [htake, List.mem_append, List.mem_append, hmem]
        refine or_congr Iff.rfl ?_
        rw [List.mem_singleton, List.mem_singleton]
        constructor
        · rintro rfl; exact Prod.ext hv.symm rfl
        · intro e; rw [← e]
      · rw [sizeLine_eq]; simp only [List.size_toArray]; omega
    · intro hb tk3
      refine wpAny_execs_nil (wpAny_execs_nil (TurnEnd.next (Ms' := [_]) (Sub.refl _) a' ⟨D, us, n, ns, rfl, by walk_at "lk", hus, by omega, fun x => ?_⟩))
      rw [htake, List.mem_append, hmem]
      constructor
      · exact .inl
      · rintro (q | q)
        · exact q
        · have e := List.mem_singleton.mp q
          by_cases hv : it.1 = "var"
          · rw [decide_eq_true hv, Bool.true_and] at hb
            have : it.2 ∈ ns := by simpa using hb
            rw [← e] at this
            exact (hmem x).mp this
          · exact absurd (by rw [← e]) hv
  · rintro Z' Ms' h' m' tk' hz' ⟨D, us, n, ns, rfl, mo, hus, hlen, hmem⟩ a'
    rw [List.length_map] at hlen hmem
    rw [List.take_length] at hmem
    have g2 := g.mono a'.keep
    have hul : us.length = ns.length := hus.length
    refine wpAny_execs_cons (wpAny_Return_some (bcall g2.g (g2.miss _ (by decide)) g2.b g2.bsorted (args_cons (nm a' (v := .ref D) mo (args_nil ?_)))))
    refine sorted_ints (s := St r h' tk') ⟨_, a'.head, rfl, _, rfl⟩ hus (by omega) fun out ns' i1 i2 i3 => ?_
    obtain ⟨e, he⟩ := sortedAll_at h' us out
    have hnone : h'.get? (h'.objs.size + 1) = none := Heap.get?_none_of_le (Nat.le_succ _)
    obtain ⟨n1, n2, n3, n4⟩ := At.dead hnone a'
    obtain ⟨Z2, hs2, a2, f2⟩ := (a'.ext (h' := sortedAll h' us out) fun _ _ => sortedAll_old).freeze
    have hz2 := f2 _ _ he n2 n1 n4
    refine k _ ns' _ Z2 _ a2.grown ?_ fun x => ?_
    · exact Rd.list (vs := out.toList) (by simpa [seqObj] using hz2) (ints_rd i1)
    · rw [i2.mem_iff, hmem, mem_vars]
end
end Mine

namespace Mine
open PySem PyProof.Rows PySem.Calls
set_option maxRecDepth 100000

local macro_rules | `(tactic| walk_at "lk") => `(tactic| first | assumption | exact up_self | (refine up_ne (by decide) ?_; walk_at "lk"))

section
variable {prog : Program} {w : World} {A : Around} {E : Value → Shared → Prop} {env : Env} {h₀ Z₀ Z : Heap} {Ms T : List (Addr × Obj)} {h : Heap} {m : Str → Option Value} {r : Shared} {tk : Nat}

/-- a while whose turns raise nothing -/
theorem while_walk {test : Expr} {body : List Stmt} {pos : Pos} {Q : Flow → Shared → Prop} (J : Nat → Heap → List (Addr × Obj) → (Str → Option Value) → Prop) (n : Nat)
    (a : At h₀ Z₀ Z env.locals (Ms ++ T) h m) (j : J n Z Ms m)
    (turn : ∀ n Z' Ms' h' m' tk', Sub Z Z' → J n Z' Ms' m' → At h₀ Z₀ Z' env.locals (Ms' ++ T) h' m' →
      wpAny (model prog w) A (PySem.isTrue test env (eval test env)) (fun b s₂ =>
        if b = true then wpAny (model prog w) A (execs body env) (TurnEnd r h₀ Z₀ Z' env.locals T (fun Z'' Ms'' m'' => ∃ k, k < n ∧ J k Z'' Ms'' m'') Q) (fun _ _ => False) s₂
        else Q .next s₂) (fun _ _ => False) (St r h' tk')) :
    wpAny (model prog w) A (exec (.While test body [] pos) env) Q E (St r h tk) := by
  refine wpAny_While (codeAny_whileLoop (fun n s' => ∃ Z' Ms' h' m' tk', s' = St r h' tk' ∧ Sub Z Z' ∧ At h₀ Z₀ Z' env.locals (Ms' ++ T) h' m' ∧ J n Z' Ms' m') ?_ n ⟨Z, Ms, h, m, tk, rfl, fun _ _ e => e, a, j⟩)
  rintro n s' ⟨Z', Ms', h', m', tk', rfl, hz, a', j'⟩
  refine wpAny_mono (turn n Z' Ms' h' m' tk' hz j' a') (fun b s₂ q => ?_) fun _ _ q => q.elim
  cases b with
  | true =>
    rw [if_pos rfl] at q ⊢
    refine wpAny_mono q (fun f s₃ q => ?_) fun _ _ q => q.elim
    have fin : (∃ Z'' Ms'' h'' m'' tk'', s₃ = St r h'' tk'' ∧ Sub Z' Z'' ∧ At h₀ Z₀ Z'' env.locals (Ms'' ++ T) h'' m'' ∧ ∃ k, k < n ∧ J k Z'' Ms'' m'') →
        ∃ k, k < n ∧ ∃ Z' Ms' h' m' tk', s₃ = St r h' tk' ∧ Sub Z Z' ∧ At h₀ Z₀ Z' env.locals (Ms' ++ T) h' m' ∧ J k Z' Ms' m' := by
      rintro ⟨Z'', Ms'', h'', m'', tk'', rfl, hz', a'', k, hk, j''⟩
      exact ⟨k, hk, Z'', Ms'', h'', m'', tk'', rfl, fun x y e => hz' x y (hz x y e), a'', j''⟩
    cases f with
    | next => exact fin q
    | cont => exact fin q
    | brk => exact q
    | ret v => exact q
  | false =>
    rw [if_neg Bool.false_ne_true] at q ⊢
    exact wpAny_execs_nil q
end

def isMk (p : Str × Int) : Bool := decide (p.1 = "fun") || decide (p.1 = "pair")
def wt (p : Str × Int) : Int := if isMk p then 1 else -1
def wsum (l : List (Str × Int)) : Int := (l.map wt).sum
theorem wsum_append (a b : List (Str × Int)) : wsum (a ++ b) = wsum a + wsum b := by simp [wsum]
theorem wsum_mk (m : Bool) : wsum [(mkS m, 0)] = 1 := by cases m <;> decide +kernel
theorem wsum_enc : ∀ t : Ty, wsum t.enc = -1
  | .var n => by
    have : isMk (("var" : Str), n) = false := by
      show (decide (("var" : Str) = "fun") || decide (("var" : Str) = "pair")) = false
      decide
    simp [Ty.enc, wsum, wt, this]
  | .int => by decide +kernel
  | .node m l r => by
    show wsum (l.enc ++ r.enc ++ [(mkS m, 0)]) = -1
    rw [wsum_append, wsum_append, wsum_enc l, wsum_enc r, wsum_mk]; rfl
theorem wsum_suffix : ∀ (t : Ty) (p s : List (Str × Int)), t.enc = p ++ s → p ≠ [] → 0 ≤ wsum s
  | .var n, p, s, e, hp => by
    have e : [(("var" : Str), n)] = p ++ s := e
    cases p with
    | nil => exact absurd rfl hp
    | cons x p => injection e with _ e; have e : [] = p ++ s := e; rw [List.nil_eq_append_iff] at e; rw [e.2]; exact Int.le_refl _
  | .int, p, s, e, hp => by
    have e : [(("int" : Str), (0 : Int))] = p ++ s := e
    cases p with
    | nil => exact absurd rfl hp
    | cons x p => injection e with _ e; have e : [] = p ++ s := e; rw [List.nil_eq_append_iff] at e; rw [e.2]; exact Int.le_refl _
  | .node m l r, p, s, e, hp => by
    have e : l.enc ++ r.enc ++ [(mkS m, 0)] = p ++ s := e
    rcases List.eq_nil_or_concat s with rfl | ⟨s', x, rfl⟩
    · exact Int.le_refl _
    · rw [List.concat_eq_append, ← List.append_assoc] at e
      obtain ⟨e1, e2⟩ := List.append_inj' e rfl
      have e2 : (mkS m, (0 : Int)) = x := by simpa using e2
      subst e2
      rw [List.concat_eq_append, wsum_append, wsum_mk]
      rcases List.append_eq_append_iff.mp e1 with ⟨a, h1, h2⟩ | ⟨a, h1, h2⟩
      · -- p = l ++ a, r = a ++ s'
        cases a with
        | nil => rw [List.nil_append] at h2; rw [← h2, wsum_enc]; decide
        | cons y a => have := wsum_suffix r (y :: a) s' h2 (by simp); omega
      · -- l = p ++ a, s' = a ++ r
        rw [h2, wsum_append, wsum_enc]
        have := wsum_suffix l p a h1 hp
        omega

theorem enc_ne (t : Ty) : 0 < t.enc.length := by cases t <;> simp [Ty.enc] <;> omega

section
variable {prog : Program} {w : World} {A : Around} {E : Value → Shared → Prop} {Z h : Heap} {r : Shared} {tk : Nat} {mg mb : Str → Option Value}

theorem parts_spec {f : Addr} {vt : Value} {mk : Bool} {l u : Ty} {Q : Value → Shared → Prop} (g : Gl mg mb h) (fn : FnAt h f (nameF 4) (paramsF 4) (bodyF 4) (scopeF 4)) (am : Amb A 3 20)
    (hz : Sub Z h) (ht : Rd Z vt (tyD (.node mk l u))) (hsz : (Ty.node mk l u).enc.length ≤ 1000000)
    (k : ∀ v h' Z' tk', Grown h Z h' Z' → Rd Z' v (.list [tyD l, tyD u]) → Q v (St r h' tk')) :
    wpAny (model prog w) A (call (.ref f) [vt]) Q E (St r h tk) := by
  refine callF (binds := [("t", vt)]) fn g.nolimit am.room hz (fun _ _ _ _ _ => rfl) (by rfl) (by decide) (fun cd h₁ tk₁ a => ?_)
  generalize hm : (fun x => List.lookup x [(Str.ofString "t", vt)].reverse) = m at a
  have mt : m "t" = some vt := by rw [← hm]; rfl
  have am1 := am.deeper (envOf (nameF 4) (scopeF 4) h.objs.size f cd)
  have g1 := g.mono a.keep
  have hlen : ((Ty.node mk l u).enc.map itD).length = l.enc.length + u.enc.length + 1 := by simp [Ty.enc]; omega
  have hlen' : (Ty.node mk l u).enc.length = l.enc.length + u.enc.length + 1 := by simp [Ty.enc]; omega
  refine wpAny_execs_cons (asg (wpAny_BinOp (bcall g1.g (g1.miss _ (by decide)) g1.b g1.blen (args_cons (nm a (v := vt) (by walk_at "lk") (args_nil (lenL a.z ht (by rw [hlen]; omega) fun t2 tk2 => ?_)))))))
  refine cint (sub_int (sto (r := r) a fun h3 a3 => ?_))
  have hlast : (((Ty.node mk l u).enc.map itD).length : Int) - 1 = ((l.enc.length + u.enc.length : Nat) : Int) := by rw [hlen]; omega
  rw [hlast] at a3
  have hgl : ((Ty.node mk l u).enc.map itD)[((l.enc.length + u.enc.length : Nat) : Int).toNat]? = some (itD (mkS mk, 0)) := by
    rw [Int.toNat_natCast, List.getElem?_map]
    have : (Ty.node mk l u).enc = (l.enc ++ u.enc) ++ [(mkS mk, 0)] := rfl
    rw [this, List.getElem?_append_right (by simp)]
    simp
  -- the maker
  refine wpAny_execs_cons (cutIf false ?_ (fun q => by cases q) fun _ tk4 => ?_)
  · refine isTrue_and (wpAny_isTrue_Compare1 (Subscript_ (Subscript_ (nm a3 (v := vt) (by walk_at "lk") (nm a3 (v := .int ((l.enc.length + u.enc.length : Nat) : Int) _) (by walk_at "lk") (itL a3.z ht (by omega) (by omega) hgl fun x rx => cint (itT a3.z rx (by decide) (by decide) rfl fun x0 r0 => ?_)))))))
    obtain ⟨t0, rfl⟩ := r0.unstr
    refine cstr (ne_str (trB mk ?_ ?_))
    · cases mk <;> decide +kernel
    cases mk with
    | false => exact ifF rfl ⟨rfl, _, rfl⟩
    | true =>
      refine ifT rfl (isTrue_and (wpAny_isTrue_Compare1 (Subscript_ (Subscript_ (nm a3 (v := vt) (by walk_at "lk") (nm a3 (v := .int ((l.enc.length + u.enc.length : Nat) : Int) _) (by walk_at "lk") (itL a3.z ht (by omega) (by omega) hgl fun x rx => cint (itT a3.z rx (by decide) (by decide) rfl fun x0 r0 => ?_))))))))
      obtain ⟨t0, rfl⟩ := r0.unstr
      refine cstr (ne_str (trB false ?_ ?_))
      · decide +kernel
      exact ifF rfl ⟨rfl, _, rfl⟩
  refine wpAny_execs_nil (wpAny_execs_cons (asg (nm a3 (v := .int ((l.enc.length + u.enc.length : Nat) : Int) _) (by walk_at "lk") (sto a3 fun h5 a5 => wpAny_execs_cons (asg (cint (sto a5 fun h6 a6 => ?_)))))))
  refine wpAny_execs_cons (while_walk (r := r) (T := []) (Ms := []) (fun n _ Ms' m' => Ms' = [] ∧ l.enc.length ≤ n ∧ n ≤ l.enc.length + u.enc.length ∧ m' "t" = some vt ∧ IntAt m' "last" ((l.enc.length + u.enc.length : Nat) : Int) ∧
    IntAt m' "start" (n : Int) ∧ IntAt m' "wanted" (1 + wsum (u.enc.drop (n - l.enc.length)))) (l.enc.length + u.enc.length) a6 ⟨rfl, Nat.le_add_right _ _, Nat.le_refl _, by walk_at "lk", ⟨_, by walk_at "lk"⟩, ⟨_, by walk_at "lk"⟩, ?_⟩ ?_)
  · rw [Nat.add_sub_cancel_left, List.drop_length]; exact ⟨_, up_self⟩
  rintro n Z' Ms' h' m' tk' hz' ⟨rfl, hlo, hhi, m1, ⟨t1, m2⟩, ⟨t2, m3⟩, ⟨t3, m4⟩⟩ a'
  by_cases hn : n = l.enc.length
  · -- the end
    subst hn
    have hw : 1 + wsum (u.enc.drop (l.enc.length - l.enc.length)) = 0 := by rw [Nat.sub_self, List.drop_zero, wsum_enc]; rfl
    refine isTrue_and (wpAny_isTrue_Compare1 (nm a' (v := .int _ t3) m4 (cint (gt_int (trB false (decide_eq_false (by omega)) (ifF rfl (ifF rfl ?_)))))))
    obtain ⟨lv, us, rfl, il, ru⟩ := ht.unlist
    have hul : us.length = l.enc.length + u.enc.length + 1 := by have := ru.length; rw [this]; exact hlen
    have hil := isList_mono a'.z (isList_mono hz' il)
    -- t[:start]
    refine wpAny_execs_cons (wpAny_Return_some (List_ (args_cons (Subscript_ (nm a' (v := .ref lv) (by walk_at "lk") (wpAny_Slice (wpAny_pure (nm a' (v := .int _ t2) (by walk_at "lk") (wpAny_pure
      (slL (r := r) (h := h') hil .none (.int _ _) ?_ (by rfl) (by rw [sizeLine_eq]; simp only [List.size_toArray]; omega)))))))))))
    rw [slicePick_upto us.toArray l.enc.length (by simp only [List.size_toArray]; omega)]
    obtain ⟨Z1, hs1, a1, e1⟩ := (a'.push { cls := .type "slice", data := .fields #[.none, .int (l.enc.length : Int) t2, .none] }).frozen { cls := .type "list", data := .seq (us.toArray.toList.take l.enc.length).toArray } rfl
    rw [Heap.size_push] at e1
    have r1 : Rd Z1 (.ref (h'.objs.size + 1)) (tyD l) := by
      refine Rd.list e1 ?_
      have := (ru.mono (fun x y e => hs1 x y (hz' x y e))).take l.enc.length
      rw [← List.map_take] at this
      have e : (Ty.node mk l u).enc.take l.enc.length = l.enc := by
        show (l.enc ++ u.enc ++ [(mkS mk, 0)]).take l.enc.length = l.enc
        rw [List.append_assoc, List.take_left']; rfl
      rw [e] at this
      simpa using this
    -- t[start:last]
    have hil1 := isList_mono a1.z (isList_mono hs1 (isList_mono hz' il))
    refine args_cons (Subscript_ (nm a1 (v := .ref lv) (by walk_at "lk") (wpAny_Slice (nm a1 (v := .int _ t2) (by walk_at "lk") (nm a1 (v := .int _ t1) (by walk_at "lk") (wpAny_pure
      (slL (r := r) hil1 (.int _ _) (.int _ _) ?_ (by rfl) (by rw [sizeLine_eq]; simp only [List.size_toArray]; omega))))))))
    rw [slicePick_run us.toArray l.enc.length (l.enc.length + u.enc.length) (by simp only [List.size_toArray]; omega) (by omega), Nat.add_sub_cancel_left]
    obtain ⟨Z2, hs2, a2, e2⟩ := (a1.push { cls := .type "slice", data := .fields #[.int (l.enc.length : Int) t2, .int ((l.enc.length + u.enc.length : Nat) : Int) t1, .none] }).frozen { cls := .type "list", data := .seq ((us.toArray.toList.drop l.enc.length).take u.enc.length).toArray } rfl
    rw [Heap.size_push] at e2
    have ra2 : RdAll Z2 ((us.toArray.toList.drop l.enc.length).take u.enc.length) (u.enc.map itD) := by
      have := ((ru.mono (fun x y e => hs2 x y (hs1 x y (hz' x y e)))).drop l.enc.length).take u.enc.length
      rw [← List.map_drop, ← List.map_take] at this
      have e : ((Ty.node mk l u).enc.drop l.enc.length).take u.enc.length = u.enc := by
        show ((l.enc ++ u.enc ++ [(mkS mk, 0)]).drop l.enc.length).take u.enc.length = u.enc
        rw [List.append_assoc, List.drop_left', List.take_left'] <;> rfl
      rw [e] at this
      simpa using this
    have r2 : Rd Z2 _ (tyD u) := Rd.list e2 ra2
    refine args_nil (newL (r := r) ?_)
    obtain ⟨Z3, hs3, a3, e3⟩ := a2.frozen { cls := .type "list", data := .seq [Value.ref (h'.objs.size + 1), _].toArray } rfl
    exact k _ _ Z3 _ a3.grown (Rd.list e3 (.cons ((r1.mono hs2).mono hs3) (.cons (r2.mono hs3) .nil)))
  · -- one more item
    have hn1 : l.enc.length < n := by omega
    obtain ⟨n, rfl⟩ : ∃ k, n = k + 1 := ⟨n - 1, by omega⟩
    have hidx : n - l.enc.length < u.enc.length := by omega
    have hsub : n + 1 - l.enc.length = (n - l.enc.length) + 1 := by omega
    have hw : 0 ≤ wsum (u.enc.drop (n + 1 - l.enc.length)) := by
      refine wsum_suffix u (u.enc.take (n + 1 - l.enc.length)) _ (List.take_append_drop _ _).symm ?_
      intro q
      have := congrArg List.length q
      rw [List.length_take, List.length_nil] at this
      have := enc_ne u
      omega
    refine isTrue_and (wpAny_isTrue_Compare1 (nm a' (v := .int _ t3) m4 (cint (gt_int (trB true (decide_eq_true (by omega)) (ifT rfl ?_))))))
    refine isTrue_and (wpAny_isTrue_Compare1 (nm a' (v := .int _ t2) m3 (cint (gt_int (trB true (decide_eq_true (by omega)) (ifT rfl (isTrue_and_nil (ifT rfl ?_))))))))
    refine wpAny_execs_cons (asg (wpAny_BinOp (nm a' (v := .int _ t2) m3 (cint (sub_int (sto (r := r) a' fun h3 a3 => ?_))))))
    have hs1 : ((n + 1 : Nat) : Int) - 1 = (n : Int) := by omega
    rw [hs1] at a3
    obtain ⟨it, hit⟩ : ∃ it, u.enc[n - l.enc.length]? = some it := ⟨u.enc[n - l.enc.length], by simp [hidx]⟩
    have hgi : ((Ty.node mk l u).enc.map itD)[(n : Int).toNat]? = some (itD it) := by
      rw [Int.toNat_natCast, List.getElem?_map]
      have : (Ty.node mk l u).enc = l.enc ++ (u.enc ++ [(mkS mk, 0)]) := by show l.enc ++ u.enc ++ [(mkS mk, 0)] = _; rw [List.append_assoc]
      rw [this, List.getElem?_append_right (by omega), List.getElem?_append_left hidx, hit]; rfl
    have hdrop : u.enc.drop (n - l.enc.length) = it :: u.enc.drop (n + 1 - l.enc.length) := by
      rw [hsub]
      have e : u.enc[n - l.enc.length] = it := by rw [List.getElem?_eq_getElem hidx] at hit; exact Option.some.inj hit
      rw [List.drop_eq_getElem_cons hidx, e]
    have hsum : wsum (u.enc.drop (n - l.enc.length)) = wt it + wsum (u.enc.drop (n + 1 - l.enc.length)) := by rw [hdrop]; simp [wsum]
    have hz3 := a3.z
    refine wpAny_execs_cons (cutIf (isMk it) ?_ ?_ ?_)
    · refine isTrue_or (wpAny_isTrue_Compare1 (Subscript_ (Subscript_ (nm a3 (v := vt) (by walk_at "lk") (nm a3 (v := .int (n : Int) _) (by walk_at "lk") (itL hz3 (ht.mono hz') (by omega) (by omega) hgi fun x rx => cint (itT hz3 rx (by decide) (by decide) rfl fun x0 r0 => ?_)))))))
      obtain ⟨t0, rfl⟩ := r0.unstr
      refine cstr (eq_str (trB (decide (it.1 = "fun")) (beqS _ _) ?_))
      by_cases hv : it.1 = "fun"
      · exact ifT (decide_eq_true hv) ⟨by unfold isMk; rw [decide_eq_true hv]; rfl, _, rfl⟩
      · refine ifF (decide_eq_false hv) (isTrue_or (wpAny_isTrue_Compare1 (Subscript_ (Subscript_ (nm a3 (v := vt) (by walk_at "lk") (nm a3 (v := .int (n : Int) _) (by walk_at "lk") (itL hz3 (ht.mono hz') (by omega) (by omega) hgi fun x rx => cint (itT hz3 rx (by decide) (by decide) rfl fun x0 r0 => ?_))))))))
        obtain ⟨t0, rfl⟩ := r0.unstr
        refine cstr (eq_str (trB (decide (it.1 = "pair")) (beqS _ _) ?_))
        have e : isMk it = decide (it.1 = "pair") := by unfold isMk; rw [decide_eq_false hv]; rfl
        rw [e]
        by_cases hp : it.1 = "pair"
        · rw [decide_eq_true hp]; exact ifT rfl ⟨rfl, _, rfl⟩
        · rw [decide_eq_false hp]; exact ifF rfl (isTrue_or_nil ⟨rfl, _, rfl⟩)
    · intro hb tk5
      have hw1 : wt it = 1 := by unfold wt; rw [if_pos hb]
      refine wpAny_execs_cons (asg (wpAny_BinOp (nm a3 (v := .int _ t3) (by walk_at "lk") (cint (add_int (sto (r := r) a3 fun h6 a6 => ?_))))))
      refine wpAny_execs_nil (wpAny_execs_nil (TurnEnd.next (Ms' := []) (Sub.refl _) a6 ⟨n, by omega, rfl, by omega, by omega, by walk_at "lk", ⟨_, by walk_at "lk"⟩, ⟨_, by walk_at "lk"⟩, ?_⟩))
      have e : 1 + wsum (u.enc.drop (n - l.enc.length)) = 1 + wsum (u.enc.drop (n + 1 - l.enc.length)) + 1 := by rw [hsum, hw1]; omega
      rw [e]; exact ⟨_, up_self⟩
    · intro hb tk5
      have hw1 : wt it = -1 := by unfold wt; rw [if_neg (by rw [hb]; exact Bool.false_ne_true)]
      refine wpAny_execs_cons (asg (wpAny_BinOp (nm a3 (v := .int _ t3) (by walk_at "lk") (cint (sub_int (sto (r := r) a3 fun h6 a6 => ?_))))))
      refine wpAny_execs_nil (wpAny_execs_nil (TurnEnd.next (Ms' := []) (Sub.refl _) a6 ⟨n, by omega, rfl, by omega, by omega, by walk_at "lk", ⟨_, by walk_at "lk"⟩, ⟨_, by walk_at "lk"⟩, ?_⟩))
      have e : 1 + wsum (u.enc.drop (n - l.enc.length)) = 1 + wsum (u.enc.drop (n + 1 - l.enc.length)) - 1 := by rw [hsum, hw1]; omega
      rw [e]; exact ⟨_, up_self⟩
end
end Mine

namespace Mine
open PySem PyProof.Rows PySem.Calls
set_option maxRecDepth 100000

/-! mutable dicts -/
/-- an object is the dict d: its values read in Z -/
def DObj (prog : Program) (w : World) (Z : Heap) (o : Obj) (d : Dc) : Prop :=
  ∃ kvs, o.IsDictOf (intKind prog w) kvs ∧ kvs.map (·.1) = d.map (·.1) ∧ RdAll Z (kvs.map (·.2)) (d.map fun p => tyD p.2)
theorem DObj.mono {prog : Program} {w : World} {Z Z' : Heap} (hs : Sub Z Z') {o : Obj} {d : Dc} (x : DObj prog w Z o d) : DObj prog w Z' o d :=
  let ⟨kvs, a, b, c⟩ := x; ⟨kvs, a, b, c.mono hs⟩
theorem DObj.rd {prog : Program} {w : World} {Z h : Heap} {o : Obj} {d : Dc} {D : Addr} (x : DObj prog w Z o d) (hD : h.get? D = some o) (hn : (D == sysModules) = false) : RdD prog w h Z (.ref D) (dD d) := by
  obtain ⟨kvs, a, b, c⟩ := x
  refine ⟨D, kvs, rfl, hn, Heap.dictOf_iff.mpr ⟨o, hD, a⟩, ?_, ?_⟩
  · rw [b]; simp [dD]
  · have : (dD d).map (·.2) = d.map fun p => tyD p.2 := by simp [dD]
    rw [this]; exact c
theorem DObj.nil (prog : Program) (w : World) (Z : Heap) : DObj prog w Z { cls := .type "dict", data := .dict #[] } [] :=
  ⟨[], ⟨#[], 0, ⟨rfl, rfl, rfl⟩, rfl, fun _ he => by simp at he, Pairs.nil, List.nodup_nil⟩, rfl, .nil⟩
theorem DObj.notFreed {prog : Program} {w : World} {Z : Heap} {o : Obj} {d : Dc} (x : DObj prog w Z o d) : o.isFreed = false := by
  obtain ⟨kvs, ⟨es, ep, _, e, _⟩, _⟩ := x
  obtain ⟨c, dd, dt, sl⟩ := o
  subst e; rfl

theorem stored_any : ∀ {kvs : List (Int × Value)} {d : Dc} (k : Int), kvs.map (·.1) = d.map (·.1) → kvs.any (fun kv => decide (kv.1 = k)) = d.any (fun kv => decide (kv.1 = k))
  | [], [], _, _ => rfl
  | [], _ :: _, _, e => by cases e
  | _ :: _, [], _, e => by cases e
  | a :: kvs, b :: d, k, e => by
    simp only [List.map_cons, List.cons.injEq] at e
    rw [List.any_cons, List.any_cons, stored_any k e.2, e.1]
theorem stored_put {Z : Heap} {kvs : List (Int × Value)} {d : Dc} {k : Int} {v : Value} {t : Ty} (hk : kvs.map (·.1) = d.map (·.1)) (hv : RdAll Z (kvs.map (·.2)) (d.map fun p => tyD p.2)) (rv : Rd Z v (tyD t)) :
    (stored kvs k v).map (·.1) = (putT d k t).map (·.1) ∧ RdAll Z ((stored kvs k v).map (·.2)) ((putT d k t).map fun p => tyD p.2) := by
  unfold stored putT
  rw [stored_any k hk]
  by_cases h : d.any (fun kv => decide (kv.1 = k)) = true
  · rw [if_pos h, if_pos h]
    clear h
    have key : ∀ (kvs : List (Int × Value)) (d : Dc), kvs.map (·.1) = d.map (·.1) → RdAll Z (kvs.map (·.2)) (d.map fun p => tyD p.2) →
        ((kvs.map fun kv => if kv.1 = k then (kv.1, v) else kv).map (·.1) = (d.map fun kv => if kv.1 = k then (kv.1, t) else kv).map (·.1)) ∧
        RdAll Z ((kvs.map fun kv => if kv.1 = k then (kv.1, v) else kv).map (·.2)) ((d.map fun kv => if kv.1 = k then (kv.1, t) else kv).map fun p => tyD p.2) := by
      intro kvs
      induction kvs with
      | nil => intro d e _; cases d with
        | nil => exact ⟨rfl, .nil⟩
        | cons => cases e
      | cons a kvs ih =>
        intro d e l
        cases d with
        | nil => cases e
        | cons b d =>
          simp only [List.map_cons, List.cons.injEq] at e
          rw [List.map_cons, List.map_cons] at l
          obtain ⟨v', r', e', l1, l2⟩ := l.uncons
          obtain ⟨rfl, rfl⟩ := List.cons.inj e'
          obtain ⟨i1, i2⟩ := ih d e.2 l2
          simp only [List.map_cons]
          by_cases q : a.1 = k
          · have q' : b.1 = k := by rw [← e.1]; exact q
            rw [if_pos q, if_pos q']
            exact ⟨by rw [i1, e.1], .cons rv i2⟩
          · have q' : ¬ b.1 = k := by rw [← e.1]; exact q
            rw [if_neg q, if_neg q']
            exact ⟨by rw [i1, e.1], .cons l1 i2⟩
    exact key kvs d hk hv
  · rw [if_neg h, if_neg h]
    refine ⟨by rw [List.map_append, List.map_append, hk]; rfl, ?_⟩
    rw [List.map_append, List.map_append]
    exact hv.append (.one rv)

section
variable {prog : Program} {w : World} {A : Around} {E : Value → Shared → Prop} {env : Env} {h₀ Z₀ Z : Heap} {L : Addr} {Ms T : List (Addr × Obj)} {h : Heap} {m : Str → Option Value} {r : Shared} {tk : Nat}

/-- d[k] = v in the ledger's head -/
theorem setM {D : Addr} {o : Obj} {d : Dc} {k : Int} {u : Tok} {v : Value} {t : Ty} {Q : Unit → Shared → Prop} (a : At h₀ Z₀ Z L ((D, o) :: Ms) h m) (x : DObj prog w Z o d) (hd : d.length ≤ 1000000) (rv : Rd Z v (tyD t))
    (q : ∀ o' h', DObj prog w Z o' (putT d k t) → At h₀ Z₀ Z L ((D, o') :: Ms) h' m → Q () (St r h' (tk + 1))) :
    wpAny (model prog w) A (setItem (.ref D) (.int k u) v) Q E (St r h tk) := by
  obtain ⟨kvs, o1, o2, o3⟩ := x
  have hl : kvs.length = d.length := by have := congrArg List.length o2; simpa using this
  refine wpAny_setItem_pairs (s := St r h tk) (intKind_is prog w k u) (Heap.dictOf_iff.mpr ⟨o, a.head, o1⟩) (fun h' hd' hs' => ?_) (by rw [sizeLine_eq]; omega)
  obtain ⟨o', e', i'⟩ := Heap.dictOf_iff.mp hd'
  obtain ⟨s1, s2⟩ := stored_put (k := k) o2 o3 rv
  exact q o' h' ⟨_, i', s1, s2⟩ (a.upd hs' e')

/-- for over a frozen dict -/
theorem for_dict {x : Str} {px : Pos} {body : List Stmt} {dv : Value} {d : List (Int × PyData)} {Q : Flow → Shared → Prop} (hh : A.handled = none)
    (J : Nat → Heap → List (Addr × Obj) → (Str → Option Value) → Prop)
    (hz : Sub Z h) (hd : RdD prog w Z Z dv d) (a : At h₀ Z₀ Z env.locals (Ms ++ T) h m) (j0 : J 0 Z Ms m)
    (turn : ∀ i k y t Z' Ms' T' h' m' tk', d[i]? = some (k, y) → Sub Z Z' → J i Z' Ms' m' → At h₀ Z₀ Z' env.locals (Ms' ++ T') h' (up m' x (.int k t)) →
      wpAny (model prog w) A (execs body env) (TurnEnd r h₀ Z₀ Z' env.locals T' (J (i + 1)) Q) (fun _ _ => False) (St r h' tk'))
    (done : ∀ Z' Ms' h' m' tk', Sub Z Z' → J d.length Z' Ms' m' → At h₀ Z₀ Z' env.locals (Ms' ++ T) h' m' → Q .next (St r h' tk'))
    (hk : env.scope.kind = .function := by rfl) (hlx : env.kindOf x = some .local := by rfl) :
    wpAny (model prog w) A (pyIter dv) (fun it s₂ => codeAny (model prog w) A (.forLoop (.Name x px) it body [] env) (fun r s' => match r with | .ok f => Q f s' | .error e => cameBackBy (model prog w) A env E e s') s₂) E (St r h tk) := by
  obtain ⟨D, kvs, rfl, hn, hdo, k1, _⟩ := hd
  obtain ⟨ep, hda⟩ := hdo.dictAt
  obtain ⟨od, _, hod, _⟩ := id hda
  have hda' := hda.keep hz
  have hne : D ≠ h.objs.size := Nat.ne_of_lt (Heap.lt_size (hz _ _ hod))
  have hlen : kvs.length = d.length := by have := congrArg List.length k1; simpa using this
  refine wpAny_pyIter_dict hn hda' ?_
  have W := Walks.dictKeys (prog := prog) (w := w) (knd := intKind prog w) hh h.objs.size D hne kvs ep
  have a1 : At h₀ Z₀ Z env.locals (Ms ++ (h.objs.size, { cls := .type "dict_keyiterator", data := .fields #[.ref D, .int 0 0, .int kvs.length 0, .int ep 0] }) :: T) (h.push { cls := .type "dict_keyiterator", data := .fields #[.ref D, .int 0 0, .int kvs.length 0, .int ep 0] }) m :=
    (a.made { cls := .type "dict_keyiterator", data := .fields #[.ref D, .int 0 0, .int kvs.length 0, .int ep 0] } rfl).perm List.perm_middle.symm
  refine for_walk (Q := Q) W (fun i h s => let ⟨⟨o, e, _⟩, _⟩ := s; ⟨o, e⟩) J a1 ⟨⟨_, Heap.get?_push_size _ rfl, rfl, rfl⟩, hda'.push _⟩ ?_ j0 ?_ ?_ (fun f s' q => q) hk hlx
  · intro b hb
    rcases List.mem_cons.mp hb with rfl | hb
    · exact .inl rfl
    · exact .inr ⟨od, by rw [List.mem_singleton.mp hb]; exact hod⟩
  · rintro i v Z' Ms' T' h' m' tk' hi ⟨k, y, hy, hkv⟩ hz' j' a'
    obtain ⟨t, rfl⟩ := Value.isInt_shape hkv
    obtain ⟨⟨k', y'⟩, hy'⟩ : ∃ p, d[i]? = some p := ⟨d[i]'(by omega), by simp⟩
    have : k' = k := by
      have e1 : (kvs.map (·.1))[i]? = some k := by rw [List.getElem?_map, hy]; rfl
      have e2 : (d.map (·.1))[i]? = some k' := by rw [List.getElem?_map, hy']; rfl
      rw [k1, e2] at e1; exact Option.some.inj e1
    subst this
    exact turn i k' y' t Z' Ms' T' h' m' tk' hy' hz' j' a'
  · intro Z' Ms' h' m' tk' hz' j' a'
    rw [hlen] at j'
    exact done Z' Ms' h' m' tk' hz' j' a'

/-- an item of a list that may still change -/
theorem itM {value slice : Expr} {l : Addr} {us : List Value} {ds : List PyData} {k : Int} {u : Tok} {d : PyData} {Q : Value → Shared → Prop} (hl : h.IsList l us.toArray) (ra : RdAll Z us ds) (h0 : 0 ≤ k) (hfit : k < 2 ^ 63) (hx : ds[k.toNat]? = some d)
    (q : ∀ v, Rd Z v d → Q v (St r h tk))
    (hsb : ∀ a, subscripted slice false (.ref a) (.int k u) = operate [.ref a, .int k u] (getItem (.ref a) (.int k u)) := by intro _; with_unfolding_all rfl) :
    wpAny (model prog w) A (subscriptTail value slice (.ref l) (.int k u)) Q E (St r h tk) := by
  obtain ⟨v, hv, rv⟩ := ra.get hx
  exact tail_any (Heap.IsList.typeIs (s := St r h tk) hl) list_getitem_lookup (wpAny_getItem_list hl h0 hfit (by simpa using hv) (q v rv)) (hsb l)
theorem lenM {l : Addr} {us : List Value} {Q : Value → Shared → Prop} (hl : h.IsList l us.toArray) (hfit : (us.length : Int) < 2 ^ 63) (q : ∀ t tk', Q (.int us.length t) (St r h tk')) :
    wpAny (model prog w) A (call (.builtin "len") [.ref l]) Q E (St r h tk) := by
  refine call_len_list (s := St r h tk) hl (by rw [List.size_toArray]; exact hfit) ?_
  simp only [List.size_toArray]; exact q _ _
/-- the last item of the ledger's head goes -/
theorem delM {D : Addr} {us : List Value} {v : Value} {n : Nat} {i : Int} {u : Tok} {Q : Unit → Shared → Prop} (a : At h₀ Z₀ Z L ((D, { cls := .type "list", data := .seq (us ++ [v]).toArray n }) :: Ms) h m) (hi : i = us.length) (hsz : us.length ≤ 1000000)
    (q : ∀ n' h', At h₀ Z₀ Z L ((D, { cls := .type "list", data := .seq us.toArray n' }) :: Ms) h' m → Q () (St r h' tk)) :
    wpAny (model prog w) A (delItem (.ref D) (.int i u)) Q E (St r h tk) := by
  subst hi
  refine wpAny_delItem_plain (s := St r h tk) (k := us.length) ⟨n, a.head⟩ ?_ ?_ (fun h' hp hs => ?_) (by rw [sizeLine_eq]; simp; omega)
  · unfold Builtin.List.listFitsIndex
    simp; omega
  · have hn : ¬ ((us.length : Int) < 0) := by omega
    simp [seqIndex?, hn]; omega
  · obtain ⟨n', e⟩ := hp
    have : (us ++ [v]).toArray.eraseIdxIfInBounds us.length = us.toArray := by simp [List.eraseIdx_append_of_length_le]
    rw [this] at e
    exact q n' h' (a.upd hs e)
end
end Mine

namespace Mine
open PySem PyProof.Rows PySem.Calls
set_option maxRecDepth 100000

abbrev excBm : List Value := [.type "Exception", .type "BaseException", .type "object"]
def ExcAt (mg : Str → Option Value) (h : Heap) (x : Str) (C : Addr) : Prop :=
  mg x = some (.ref C) ∧ ∃ N nm q bs hdct sn sub ab col dd k0 k1 k2 k3 k5 mN, h.get? C = some (excClassObj nm q C N bs excBm hdct sn sub ab col dd k0 k1 k2 k3 k5 "Exception.__new__") ∧ h.Ns N mN ∧ mN "__init__" = none
theorem ExcAt.mono {mg : Str → Option Value} {h h' : Heap} (hs : Sub h h') {x : Str} {C : Addr} (O : ExcAt mg h x C) : ExcAt mg h' x C := by
  obtain ⟨e, N, nm, q, bs, hdct, sn, sub, ab, col, dd, k0, k1, k2, k3, k5, mN, hC, hN, hi⟩ := O
  exact ⟨e, N, nm, q, bs, hdct, sn, sub, ab, col, dd, k0, k1, k2, k3, k5, mN, hs _ _ hC, hN.keeps hs, hi⟩
theorem ExcAt.own {mg : Str → Option Value} {h : Heap} {x : Str} {C : Addr} (O : ExcAt mg h x C) : OwnCls x C excBm "Exception.__new__" mg h := by
  obtain ⟨e, N, nm, q, bs, hdct, sn, sub, ab, col, dd, k0, k1, k2, k3, k5, mN, hC, hN, hi⟩ := O
  exact ⟨e, excBm, N, nm, q, bs, hdct, sn, sub, ab, col, dd, k0, k1, k2, k3, k5, mN, hC, hN, hi, .base⟩

/-- the frames below are frames of defs -/
def FrOk (h : Heap) (outer : List Env) : Prop := ∀ env ∈ outer, env.scope.kind ≠ .module ∧ ∃ L o, env.frame = some L ∧ h.get? L = some o ∧ ∀ vs, o.data ≠ .fields vs
theorem FrOk.frames {h h' : Heap} {p : Addr → Prop} (hs : Sub h h') : ∀ {l : List Env}, FrOk h l → (∀ env ∈ l, ∀ L, env.frame = some L → ¬ p L) → h'.FunFrames (cut h p) l
  | [], _, _ => trivial
  | env :: r, k, n => by
    obtain ⟨hk, L, o, hf, ho, hd⟩ := k env (.head _)
    exact ⟨hk, ⟨L, o, hf, cut_none (n env (.head _) L hf), hs _ _ ho, hd⟩, FrOk.frames hs (fun e he => k e (.tail _ he)) fun e he => n e (.tail _ he)⟩

/-- an exception of the class cls is in flight past the frames, over the heap h that stood ahead of the call -/
def Fly (outer : List Env) (h : Heap) (cls : Value) (e : Addr) (h' : Heap) : Prop :=
  ∃ B a0, (∀ b o, h.get? b = some o → (∀ env ∈ outer, env.frame ≠ some b) → B.get? b = some o) ∧ Heap.FlyingW B outer e cls a0 h' ∧ h.UpToSlots h'

section
variable {prog : Program} {w : World} {A : Around} {E : Value → Shared → Prop} {h₀ Z₀ Z : Heap} {L : Addr} {Ms : List (Addr × Obj)} {h : Heap} {m mg mb : Str → Option Value} {r : Shared} {tk : Nat}

theorem raise_exc {name : Str} {scope : Scope} {f : Addr} {cd : Value} {outer : List Env} {x msg : Str} {C : Addr} {np cpos pos cp : Pos} {kk : Nat} {Q : Flow → Shared → Prop} (hfr : A.frames = some outer) (hfo : FrOk h₀ outer) (hh : A.handled = none)
    (a : At h₀ Z₀ Z L Ms h m) (hg : h₀.Ns mainGlobals mg) (O : ExcAt mg h₀ x C)
    (k : ∀ e h' tk', Fly outer h₀ (.ref C) e h' → E (.ref e) (St r h' tk'))
    (hk : scope.kind = .function := by rfl) (hx : (envOf name scope L f cd).kindOf x = some .globalImplicit := by rfl) (hd : (x == ("__debug__" : Str)) = false := by decide) :
    wpAny (model prog w) (A.deeper (envOf name scope L f cd)) (exec (.Raise (some (.Call (.Name x np) [.Constant (.str msg) kk cp] [] cpos)) none pos) (envOf name scope L f cd)) Q
      (fun e s' => wpAny (model prog w) (A.deeper (envOf name scope L f cd)) (leaving (envOf name scope L f cd) e) (fun _ s'' => E e s'') (fun e' s'' => E e' s'') s') (St r h tk) := by
  refine Raise_own (s := St r h tk) a.fr hg O.own PySem.F.excBase_Exception hh (args_cons (cstr (args_nil ⟨by simp [sizeLine_eq], a.keep, fun h2 e hm => ?_⟩))) rfl rfl hk hx hd
  have hst : (cut h₀ fun b => ∀ env ∈ outer, env.frame ≠ some b).StaysIn h := fun b o q => a.keep b o (cut_get.mp q).1
  have hLn : (cut h₀ fun b => ∀ env ∈ outer, env.frame ≠ some b).get? L = none := by
    cases q : (cut h₀ fun b => ∀ env ∈ outer, env.frame ≠ some b).get? L with
    | none => rfl
    | some o => exact absurd rfl (a.base_ne (cut_get.mp q).1)
  have hfun : h.FunFrames (cut h₀ fun b => ∀ env ∈ outer, env.frame ≠ some b) (envOf name scope L f cd :: outer) :=
    Heap.FunFrames.cons (by show scope.kind ≠ .module; rw [hk]; decide) rfl a.ns hLn (hfo.frames a.keep fun env he L' hf q => q env he hf)
  refine wpAny_leaves_madeW (s := { St r h (tk + 1) with heap := h2 }) (Around.frames_deeper hfr) rfl hst hfun hm fun h' t x1 x2 x3 x4 => ?_
  exact k e h' _ ⟨_, _, fun b o q n => cut_get.mpr ⟨q, n⟩, x1, ((Heap.UpToSlots.of_keeps a.keep).trans (Heap.UpToSlots.of_keeps hm.keeps)).trans x4⟩

theorem callFE {Z h : Heap} {f : Addr} {name : Str} {params : Arguments} {body : List Stmt} {scope : Scope} {vs : List Value} {binds : List (Str × Value)} {Q : Value → Shared → Prop}
    (fn : FnAt h f name params body scope) (hlim : h.NoLimit) (hroom : A.depth < recursionLimit) (hz : Sub Z h)
    (hbind : ∀ pm cd doc ct an, bindArgs (fnD name params body scope pm cd doc ct an) ⟨vs, []⟩ = pure binds)
    (hloc : (binds.all fun x => decide (scope.names.lookup x.1 = some .local)) = true) (hcell : ∀ x ∈ scope.names, x.2 ≠ .cell)
    (k : ∀ cd h₁ tk₁, At h Z Z h.objs.size [] h₁ (fun x => binds.reverse.lookup x) →
      wpAny (model prog w) (A.deeper (envOf name scope h.objs.size f cd)) (execs body (envOf name scope h.objs.size f cd)) (fun fl s' => Q (match fl with | .ret v => v | _ => .none) s')
        (fun e s' => wpAny (model prog w) (A.deeper (envOf name scope h.objs.size f cd)) (leaving (envOf name scope h.objs.size f cd) e) (fun _ s'' => E e s'') (fun e' s'' => E e' s'') s') (St r h₁ tk₁))
    (hco : scope.isCoroutine = false := by rfl) (hgen : scope.isGenerator = false := by rfl) (hk : scope.kind = .function := by rfl) :
    wpAny (model prog w) A (call (.ref f) vs) Q E (St r h tk) := by
  obtain ⟨o, pm, cd, doc, ct, an, e, d, c⟩ := fn
  refine wpAny_call (codeAny_call_def (s := St r h tk) (fd := fnD name params body scope pm cd doc ct an) (binds := binds) hroom e d hlim c rfl (BindsTo.of_eq (hbind pm cd doc ct an)) hcell (locs hloc) (fun h₁ hns hk₁ => ?_) hco hgen hk)
  exact k cd h₁ _ (At.start hz hns hk₁)

theorem exc_self {M : Model} {x : Str} {C e : Addr} {oe : Obj} {Q : Bool → Shared → Prop} (O : ExcAt mg h x C) (he : h.get? e = some oe) (hc : oe.cls = .ref C) (q : Q true (St r h tk)) : wpAny M A (excMatches (.ref e) (.ref C)) Q E (St r h tk) := by
  obtain ⟨_, N, nm, qn, bs, hdct, sn, sub, ab, col, dd, k0, k1, k2, k3, k5, mN, hC, hN, hi⟩ := O
  exact wpAny_excMatches_sub_self hC he hc (by decide) q
theorem exc_other {M : Model} {x y : Str} {C D e : Addr} {oe : Obj} {Q : Bool → Shared → Prop} (O : ExcAt mg h x C) (O' : ExcAt mg h y D) (hne : C ≠ D) (he : h.get? e = some oe) (hc : oe.cls = .ref C) (q : Q false (St r h tk)) :
    wpAny M A (excMatches (.ref e) (.ref D)) Q E (St r h tk) := by
  obtain ⟨_, N, nm, qn, bs, hdct, sn, sub, ab, col, dd, k0, k1, k2, k3, k5, mN, hC, hN, hi⟩ := O
  obtain ⟨_, N', nm', qn', bs', hdct', sn', sub', ab', col', dd', k0', k1', k2', k3', k5', mN', hD, hN', hi'⟩ := O'
  have hcB : (Value.ref D :: excBm).contains (.type "BaseException") = true := by rw [List.contains_cons]; exact (congrArg (_ || ·) (by decide +kernel : excBm.contains (.type "BaseException") = true)).trans (Bool.or_true _)
  have hcC : (Value.ref C :: excBm).contains (.ref D) = false := by
    rw [List.contains_cons]
    have : (Value.ref D == Value.ref C) = false := by
      rw [beq_eq_false_iff_ne]; intro z; injection z with z; exact hne z.symm
    rw [this]; rfl
  have f := tc_notTuple
  unfold excMatches
  repeat (first | (with_reducible refine wpAny_loadPart_at he ?_; rw [hc]) | with_reducible refine wpAny_loadPart_at hD ?_ | (with_reducible refine wpAny_isSubtype_exc hD ?_; rw [hcB]) | (with_reducible refine wpAny_isSubtype_exc hC ?_; rw [hcC]) | wp_step)
  exact q
end
end Mine

namespace Mine
open PySem PyProof.Rows PySem.Calls
set_option maxRecDepth 100000

local macro_rules | `(tactic| walk_at "lk") => `(tactic| first | assumption | exact up_self | (refine up_ne (by decide) ?_; walk_at "lk"))

theorem enc_len : ∀ t : Ty, t.enc.length = t.len
  | .var _ => rfl
  | .int => rfl
  | .node m l r => by
    show (l.enc ++ r.enc ++ [(mkS m, 0)]).length = l.len + r.len + 1
    rw [List.length_append, List.length_append, enc_len l, enc_len r]; rfl
def wkD (p : Ty × Ty) : PyData := .tuple [tyD p.1, tyD p.2]
def lastIt : Ty → Str × Int
  | .var v => ("var", v)
  | .int => ("int", 0)
  | .node m _ _ => (mkS m, 0)
theorem last_get (t : Ty) : (t.enc.map itD)[((((t.enc.map itD).length : Int) - 1)).toNat]? = some (itD (lastIt t)) := by
  have key : ∀ (l : List (Str × Int)) (x : Str × Int), t.enc = l ++ [x] → (t.enc.map itD)[((((t.enc.map itD).length : Int) - 1)).toNat]? = some (itD x) := by
    intro l x e
    rw [e, List.map_append, List.length_append, List.length_map]
    have : (((l.length + ([x].map itD).length : Nat) : Int) - 1).toNat = l.length := by simp
    rw [this, List.getElem?_append_right (by simp)]; simp
  cases t with
  | var v => exact key [] _ rfl
  | int => exact key [] _ rfl
  | node m l r => exact key (l.enc ++ r.enc) _ rfl
theorem lastIt_var {X : Ty} (h : (lastIt X).1 = "var") : ∃ v, X = .var v := by
  cases X with
  | var v => exact ⟨v, rfl⟩
  | int => exact absurd h (by decide)
  | node m l r =>
    have h : mkS m = "var" := h
    exact absurd h (by cases m <;> decide)
theorem turn_same {X Y : Ty} {work : List (Ty × Ty)} {out : Dc} (h : X = Y) : turn X Y work out = .go work out := by unfold turn; rw [if_pos h]
theorem turn_left {v : Int} {Y : Ty} {work : List (Ty × Ty)} {out : Dc} (h : ¬ Ty.var v = Y) : turn (.var v) Y work out = if v ∈ Y.vars then .stop .occurs else .go work (putT out v Y) := by unfold turn; rw [if_neg h]
theorem turn_right {v : Int} {X : Ty} {work : List (Ty × Ty)} {out : Dc} (hx : ¬ (lastIt X).1 = "var") : turn X (.var v) work out = if v ∈ X.vars then .stop .occurs else .go work (putT out v X) := by
  unfold turn
  cases X with
  | var u => exact absurd rfl hx
  | int => rfl
  | node m l r => rfl
theorem turn_clash {X Y : Ty} {work : List (Ty × Ty)} {out : Dc} (hx : ¬ (lastIt X).1 = "var") (hy : ¬ (lastIt Y).1 = "var") (hl : ¬ lastIt X = lastIt Y) : turn X Y work out = .stop .clash := by
  have hq : ¬ X = Y := fun e => hl (by rw [e])
  unfold turn; rw [if_neg hq]
  cases X with
  | var u => exact absurd rfl hx
  | int => cases Y with
    | var u => exact absurd rfl hy
    | int => exact absurd rfl hl
    | node m l r => rfl
  | node m l r => cases Y with
    | var u => exact absurd rfl hy
    | int => rfl
    | node m' l' r' =>
      have : ¬ m = m' := fun e => hl (by subst e; rfl)
      show (if m = m' then _ else _) = _
      rw [if_neg this]
theorem turn_both {X Y : Ty} (work : List (Ty × Ty)) (out : Dc) (hq : ¬ X = Y) (hx : ¬ (lastIt X).1 = "var") (hl : lastIt X = lastIt Y) : ∃ m l r l' r', X = .node m l r ∧ Y = .node m l' r' ∧ turn X Y work out = .go ((l, l') :: (r, r') :: work) out := by
  cases X with
  | var u => exact absurd rfl hx
  | int => cases Y with
    | var u => exact absurd (congrArg (·.1) hl) (by show ¬ ("int" : Str) = "var"; decide)
    | int => exact absurd rfl hq
    | node m l r => exact absurd (congrArg (·.1) hl) (by show ¬ ("int" : Str) = mkS m; cases m <;> decide)
  | node m l r => cases Y with
    | var u => exact absurd (congrArg (·.1) hl) (by show ¬ mkS m = ("var" : Str); cases m <;> decide)
    | int => exact absurd (congrArg (·.1) hl) (by show ¬ mkS m = ("int" : Str); cases m <;> decide)
    | node m' l' r' =>
      have e : mkS m = mkS m' := congrArg (·.1) hl
      have : m = m' := by cases m <;> cases m' <;> first | rfl | exact absurd e (by decide)
      subst this
      refine ⟨m, l, r, l', r', rfl, rfl, ?_⟩
      unfold turn; rw [if_neg hq]
      show (if m = m then _ else _) = _
      rw [if_pos rfl]
theorem canLay_last (t : Ty) : (itD (lastIt t)).canLay0 = true := by
  cases t with
  | var v =>
    show (PyData.canLay0 (.str "var") && (PyData.canLay0 (.int v) && true)) = true
    have e : PyData.canLay0 (.str "var") = true := by decide +kernel
    rw [e]; rfl
  | int => decide +kernel
  | node m l r => show (itD (mkS m, 0)).canLay0 = true; cases m <;> decide +kernel
theorem canLay_wk : ∀ l : List (Ty × Ty), PyData.canLayAll0 (l.map wkD) = true
  | [] => rfl
  | p :: l => by
    show (PyData.canLay0 (wkD p) && PyData.canLayAll0 (l.map wkD)) = true
    rw [canLay_wk l, Bool.and_true]
    show (PyData.canLay0 (tyD p.1) && (PyData.canLay0 (tyD p.2) && true)) = true
    rw [canLay_tyD, canLay_tyD]; rfl
theorem RdAll.unsnoc {Z : Heap} : ∀ {us : List Value} {ds : List PyData} {d : PyData}, RdAll Z us (ds ++ [d]) → ∃ us0 v, us = us0 ++ [v] ∧ RdAll Z us0 ds ∧ Rd Z v d
  | us, [], d, h => by
    obtain ⟨v, r, rfl, a, b⟩ := RdAll.uncons (d := d) (ds := []) h
    rw [b.unnil]; exact ⟨[], v, rfl, .nil, a⟩
  | us, e :: ds, d, h => by
    obtain ⟨v, r, rfl, a, b⟩ := RdAll.uncons (d := e) (ds := ds ++ [d]) h
    obtain ⟨us0, v', rfl, c1, c2⟩ := RdAll.unsnoc b
    exact ⟨v :: us0, v', rfl, .cons a c1, c2⟩

section
variable {prog : Program} {w : World} {A : Around} {E : Value → Shared → Prop} {env : Env} {h₀ Z₀ Z : Heap} {Ms T : List (Addr × Obj)} {h : Heap} {m : Str → Option Value} {r : Shared} {tk : Nat}

/-- a while whose turns may raise -/
theorem while_raise {test : Expr} {body : List Stmt} {pos : Pos} {Q : Flow → Shared → Prop} (hp : PassesOwn (model prog w) A env E) (J : Nat → Heap → List (Addr × Obj) → (Str → Option Value) → Prop) (n : Nat)
    (a : At h₀ Z₀ Z env.locals (Ms ++ T) h m) (j : J n Z Ms m)
    (turn : ∀ n Z' Ms' h' m' tk', Sub Z Z' → J n Z' Ms' m' → At h₀ Z₀ Z' env.locals (Ms' ++ T) h' m' →
      wpAny (model prog w) A (PySem.isTrue test env (eval test env)) (fun b s₂ =>
        if b = true then wpAny (model prog w) A (execs body env) (TurnEnd r h₀ Z₀ Z' env.locals T (fun Z'' Ms'' m'' => ∃ k, k < n ∧ J k Z'' Ms'' m'') Q) E s₂
        else Q .next s₂) E (St r h' tk')) :
    wpAny (model prog w) A (exec (.While test body [] pos) env) Q E (St r h tk) := by
  refine wpAny_While (codeAny_whileLoop (fun n s' => ∃ Z' Ms' h' m' tk', s' = St r h' tk' ∧ Sub Z Z' ∧ At h₀ Z₀ Z' env.locals (Ms' ++ T) h' m' ∧ J n Z' Ms' m') ?_ n ⟨Z, Ms, h, m, tk, rfl, fun _ _ e => e, a, j⟩)
  rintro n s' ⟨Z', Ms', h', m', tk', rfl, hz, a', j'⟩
  refine wpAny_mono (turn n Z' Ms' h' m' tk' hz j' a') (fun b s₂ q => ?_) hp
  cases b with
  | true =>
    rw [if_pos rfl] at q ⊢
    refine wpAny_mono q (fun f s₃ q => ?_) hp
    have fin : (∃ Z'' Ms'' h'' m'' tk'', s₃ = St r h'' tk'' ∧ Sub Z' Z'' ∧ At h₀ Z₀ Z'' env.locals (Ms'' ++ T) h'' m'' ∧ ∃ k, k < n ∧ J k Z'' Ms'' m'') →
        ∃ k, k < n ∧ ∃ Z' Ms' h' m' tk', s₃ = St r h' tk' ∧ Sub Z Z' ∧ At h₀ Z₀ Z' env.locals (Ms' ++ T) h' m' ∧ J k Z' Ms' m' := by
      rintro ⟨Z'', Ms'', h'', m'', tk'', rfl, hz', a'', k, hk, j''⟩
      exact ⟨k, hk, Z'', Ms'', h'', m'', tk'', rfl, fun x y e => hz' x y (hz x y e), a'', j''⟩
    cases f with
    | next => exact fin q
    | cont => exact fin q
    | brk => exact q
    | ret v => exact q
  | false =>
    rw [if_neg Bool.false_ne_true] at q ⊢
    exact wpAny_execs_nil q
end

theorem take_new {d : Dc} (hn : (d.map (·.1)).Nodup) {i : Nat} {k : Int} {T : Ty} (hi : d[i]? = some (k, T)) : look d k = some T ∧ putT (d.take i) k T = d.take (i + 1) := by
  have hlt : i < d.length := (List.getElem?_eq_some_iff.mp hi).1
  have hs : d = d.take i ++ (k, T) :: d.drop (i + 1) := by
    have e : d[i] = (k, T) := by rw [List.getElem?_eq_getElem hlt] at hi; exact Option.some.inj hi
    rw [← e, List.getElem_cons_drop, List.take_append_drop]
  have hno : look (d.take i) k = none := by
    rw [look_none_iff]
    rw [hs, List.map_append, List.map_cons] at hn
    intro q
    have := (List.nodup_append.mp hn).2.2 k q k (.head _)
    exact this rfl
  constructor
  · conv => lhs; rw [hs]
    rw [look_append, hno, look_cons, if_pos rfl]; rfl
  · rw [putT_new hno, List.take_add_one, hi]; rfl

/-- what the loop of unify holds -/
def UJ (prog : Program) (w : World) (res : Res) (N : Nat) (n : Nat) (Z : Heap) (Ms : List (Addr × Obj)) (m : Str → Option Value) : Prop :=
  ∃ W D us nn o work out, Ms = [(W, { cls := .type "list", data := .seq us.toArray nn }), (D, o)] ∧ m "work" = some (.ref W) ∧ m "out" = some (.ref D) ∧ IntAt m "fuel" n ∧ (D == sysModules) = false ∧
    DObj prog w Z o out ∧ RdAll Z us (work.reverse.map wkD) ∧ Safe n work out ∧ unifyT n work out = res ∧ work.length + n ≤ N ∧ out.length + n ≤ N

section
variable {prog : Program} {w : World} {A : Around} {E : Value → Shared → Prop} {Z h : Heap} {r : Shared} {tk : Nat} {mg mb : Str → Option Value}

def ExcOf (Cc Co Cf : Addr) : Res → Addr → Prop
  | .clash, C => C = Cc
  | .occurs, C => C = Co
  | .fuel, C => C = Cf
  | .ok _, _ => False

set_option maxHeartbeats 4000000 in
theorem unify_spec {f : Addr} {va vb vs : Value} {ta tb : Ty} {d : Dc} {n : Nat} {tf : Tok} {outer : List Env} {Cc Co Cf : Addr} {Q : Value → Shared → Prop} (g : Gl mg mb h) (fn : FnAt h f (nameF 8) (paramsF 8) (bodyF 8) (scopeF 8)) (am : Amb A 4 23)
    (hfr : A.frames = some outer) (hfo : FrOk h outer) (Oc : ExcAt mg h "ClashError" Cc) (Oo : ExcAt mg h "OccursError" Co) (Of : ExcAt mg h "FuelError" Cf)
    (hz : Sub Z h) (ha : Rd Z va (tyD ta)) (hb : Rd Z vb (tyD tb)) (hd : RdD prog w Z Z vs (dD d)) (hnd : (d.map (·.1)).Nodup) (hdl : d.length ≤ 1000) (hds : ∀ p ∈ d, p.2.len ≤ 1000) (hn : n ≤ 1000) (hsafe : Safe n [(ta, tb)] d)
    (k : ∀ v out h' Z' tk', unifyT n [(ta, tb)] d = .ok out → Grown h Z h' Z' → RdD prog w Z' Z' v (dD out) → Q v (St r h' tk'))
    (kx : ∀ C e h' tk', ExcOf Cc Co Cf (unifyT n [(ta, tb)] d) C → Fly outer h (.ref C) e h' → E (.ref e) (St r h' tk')) :
    wpAny (model prog w) A (call (.ref f) [va, vb, vs, .int (n : Int) tf]) Q E (St r h tk) := by
  refine callFE (binds := [("a", va), ("b", vb), ("s", vs), ("fuel", .int (n : Int) tf)]) fn g.nolimit am.room hz (fun _ _ _ _ _ => rfl) (by rfl) (by decide) (fun cd h₁ tk₁ a => ?_)
  generalize hm : (fun x => List.lookup x [(Str.ofString "a", va), (Str.ofString "b", vb), (Str.ofString "s", vs), (Str.ofString "fuel", .int (n : Int) tf)].reverse) = m at a
  have ma : m "a" = some va := by rw [← hm]; rfl
  have mb' : m "b" = some vb := by rw [← hm]; rfl
  have ms : m "s" = some vs := by rw [← hm]; rfl
  have mf : m "fuel" = some (.int (n : Int) tf) := by rw [← hm]; rfl
  have am1 : Amb (A.deeper (envOf (nameF 8) (scopeF 8) h.objs.size f cd)) 3 20 := am.deeper _
  have gz : ∀ {h' : Heap}, Sub h h' → Gl mg mb h' := fun q => g.mono q
  -- out = {}
  refine wpAny_execs_cons (asg (wpAny_Dict_empty ?_))
  have a1 := a.made { cls := .type "dict", data := .dict #[] } rfl
  have hDn : (h₁.objs.size == sysModules) = false := by
    have := modules_low (gz a.keep).nolimit
    exact beq_eq_false_iff_ne.mpr (Nat.ne_of_gt this)
  refine sto (r := r) a1 fun h2 a2 => ?_
  -- the copy
  refine wpAny_execs_cons (wpAny_For (nm a2 (v := vs) (by walk_at "lk") (for_dict (r := r) (T := []) (Ms := [(h₁.objs.size, { cls := .type "dict", data := .dict #[] })]) am1.hh
    (fun i Z' Ms' m' => ∃ o, Ms' = [(h₁.objs.size, o)] ∧ m' "out" = some (.ref h₁.objs.size) ∧ m' "s" = some vs ∧ m' "a" = some va ∧ m' "b" = some vb ∧ IntAt m' "fuel" n ∧ DObj prog w Z' o (d.take i))
    a2.z hd a2 ⟨_, rfl, by walk_at "lk", by walk_at "lk", by walk_at "lk", by walk_at "lk", ⟨_, by walk_at "lk"⟩, DObj.nil prog w Z⟩ ?_ ?_)))
  · rintro i kk y t Z' Ms' T' h' m' tk' hi hz' ⟨o, rfl, m1, m2, m3, m4, ⟨t5, m5⟩, ob⟩ a'
    obtain ⟨T, hT, rfl⟩ : ∃ T, d[i]? = some (kk, T) ∧ y = tyD T := by
      unfold dD at hi
      rw [List.getElem?_map] at hi
      cases q : d[i]? with
      | none => rw [q] at hi; cases hi
      | some p => rw [q] at hi; obtain ⟨p1, p2⟩ := p; simp only [Option.map_some, Option.some.injEq, Prod.mk.injEq] at hi; exact ⟨p2, by rw [hi.1], hi.2.symm⟩
    obtain ⟨hl, hput⟩ := take_new hnd hT
    have hTlen : T.len ≤ 1000 := hds (kk, T) (List.mem_of_getElem? hT)
    refine wpAny_execs_cons (wpAny_Assign_Subscript (Subscript_ (Subscript_ (nm a' (v := vs) (by walk_at "lk") (nm a' (v := .int kk t) (by walk_at "lk") (getD (x := tyD T) a'.z (hd.mono hz' hz') (by rw [lookD_dD, hl]; rfl) fun v rv => ?_))))))
    obtain ⟨l, us, rfl, il, ru⟩ := rv.unlist
    have hul : us.length ≤ 1000 := by have := ru.length; rw [List.length_map, enc_len] at this; omega
    refine wpAny_Slice (wpAny_pure (wpAny_pure (wpAny_pure (slL (r := r) (h := h') (isList_mono a'.z il) .none .none ?_ (by rfl) (by rw [sizeLine_eq]; simp only [List.size_toArray]; omega)))))
    rw [slicePick_all]
    obtain ⟨Z1, hs1, a3, e3⟩ := (a'.push { cls := .type "slice", data := .fields #[.none, .none, .none] }).frozen { cls := .type "list", data := .seq us.toArray } rfl
    rw [Heap.size_push] at e3
    have rn : Rd Z1 (.ref (h'.objs.size + 1)) (tyD T) := Rd.list e3 (ru.mono hs1)
    refine nm a3 (v := .ref h₁.objs.size) (by walk_at "lk") (nm a3 (v := .int kk t) (by walk_at "lk") (setM (r := r) (k := kk) a3 (ob.mono hs1) ?_ rn fun o' h4 ob' a4 => ?_))
    · have : (d.take i).length ≤ d.length := by rw [List.length_take]; exact Nat.min_le_right _ _
      omega
    rw [hput] at ob'
    exact wpAny_execs_nil (TurnEnd.next (Ms' := [(h₁.objs.size, o')]) hs1 a4 ⟨o', rfl, by walk_at "lk", by walk_at "lk", by walk_at "lk", by walk_at "lk", ⟨t5, by walk_at "lk"⟩, ob'⟩)
  rintro Z3 Ms3 h3 m3 tk3 hz3 ⟨o3, rfl, m1, m2, m3', m4, ⟨t5, m5⟩, ob3⟩ a3
  have hdt : d.take (dD d).length = d := by unfold dD; rw [List.length_map, List.take_length]
  rw [hdt] at ob3
  -- work
  refine wpAny_execs_cons (asg (List_ (args_cons (Tuple_ (args_cons (nm a3 (v := va) (by walk_at "lk") (args_cons (nm a3 (v := vb) (by walk_at "lk") (args_nil (newT (r := r) ?_))))))))))
  obtain ⟨Z4, hs4, a4, e4⟩ := a3.frozen { cls := .type "tuple", data := .seq [va, vb].toArray } rfl
  have rp : Rd Z4 (.ref h3.objs.size) (wkD (ta, tb)) := Rd.tuple e4 (.cons ((ha.mono hz3).mono hs4) (.cons ((hb.mono hz3).mono hs4) .nil))
  refine args_nil (newL (r := r) ?_)
  have a5 := a4.made { cls := .type "list", data := .seq [Value.ref h3.objs.size].toArray } rfl
  refine sto (r := r) a5 fun h6 a6 => ?_
  generalize hW : (h3.push { cls := .type "tuple", data := .seq [va, vb].toArray }).objs.size = W at a6
  have hz4 : Sub Z Z4 := fun x y e => hs4 x y (hz3 x y e)
  refine wpAny_execs_cons (while_raise (r := r) (T := []) (Ms := [(W, { cls := .type "list", data := .seq [Value.ref h3.objs.size].toArray }), (h₁.objs.size, o3)]) PassesOwn.leaving (UJ prog w (unifyT n [(ta, tb)] d) (2000 + n)) n a6
    ⟨W, h₁.objs.size, [Value.ref h3.objs.size], 0, o3, [(ta, tb)], d, rfl, by walk_at "lk", by walk_at "lk", ⟨t5, by walk_at "lk"⟩, hDn, ob3.mono hs4, .one rp, hsafe, rfl, by simp, by omega⟩ ?_)
  rintro n' Z' Ms' h' m' tk' hz' ⟨W', D, us, nn, o, work, out, rfl, w1, w2, ⟨tf', w3⟩, hDn', ob, ru, sf, hres, hwl, hol⟩ a'
  have a' : At h Z Z' (envOf (nameF 8) (scopeF 8) h.objs.size f cd).locals [(W', { cls := .type "list", data := .seq us.toArray nn }), (D, o)] h' m' := a'
  have hul : us.length = work.length := by have := ru.length; rw [List.length_map, List.length_reverse] at this; exact this
  -- work != []
  refine wpAny_isTrue_Compare1 (nm a' (v := .ref W') w1 (List_ (args_nil (newL (r := r) ?_))))
  have b0 := a'.push { cls := .type "list", data := .seq ([] : List Value).toArray }
  generalize hh0 : h'.push { cls := .type "list", data := .seq ([] : List Value).toArray } = h0 at b0
  have eW : h0.get? W' = some { cls := .type "list", data := .seq us.toArray nn } := b0.head
  have eN : h0.get? h'.objs.size = some { cls := .type "list", data := .seq ([] : List Value).toArray } := by rw [← hh0]; exact Heap.get?_push_size _ rfl
  obtain ⟨as1, rd1⟩ : Rd h0 (.ref W') (.list (work.reverse.map wkD)) := Rd.list eW (ru.mono b0.z)
  obtain ⟨as2, rd2⟩ : Rd h0 (.ref h'.objs.size) (.list []) := Rd.list eN .nil
  refine PySem.SeqAt.compareNe_reads (s := St r h0 tk') rd1 rd2 (canLay_wk _) (by rfl) ?_ (trB (!decide (work = [])) ?_ ?_)
  · have : min (PyData.list (work.reverse.map wkD)).depth (PyData.list []).depth ≤ 1 := Nat.min_le_right _ _
    have := am1.units
    omega
  · cases work with
    | nil => rfl
    | cons p q =>
      have : PyData.eqv (.list ((p :: q).reverse.map wkD)) (.list []) = false := by
        show PyData.eqvAll _ [] = false
        cases hq : (p :: q).reverse.map wkD with
        | nil => simp at hq
        | cons => rfl
      rw [this]; rfl
  cases work with
  | nil =>
    refine ifF rfl ?_
    rw [unifyT_nil] at hres
    refine wpAny_execs_cons (wpAny_Return_some (nm b0 (v := .ref D) (by walk_at "lk") ?_))
    obtain ⟨Z7, hs7, a7, e7⟩ := b0.drop.freezeHead
    exact k (.ref D) out _ Z7 _ hres.symm a7.grown ((ob.mono hs7).rd e7 hDn')
  | cons p work =>
    refine ifT rfl ?_
    have hul : us.length = work.length + 1 := hul
    have hwl : work.length + 1 + n' ≤ 2000 + n := hwl
    have g1 := gz b0.keep
    refine wpAny_execs_cons (cutIf (decide ((n' : Int) ≤ 0)) ?_ ?_ ?_)
    · exact wpAny_isTrue_Compare1 (nm b0 (v := .int (n' : Int) tf') (by walk_at "lk") (cint (le_int (trB _ rfl ⟨rfl, _, rfl⟩))))
    · intro hb1 tk5
      have hb1 := of_decide_eq_true hb1
      have : n' = 0 := by omega
      subst this
      refine wpAny_execs_cons (raise_exc hfr hfo am.hh b0 g.g Of fun e h9 tk9 fl => kx Cf e h9 tk9 ?_ fl)
      rw [← hres]; rfl
    intro hb1 tk5
    have hb1 := of_decide_eq_false hb1
    obtain ⟨n', rfl⟩ : ∃ k, n' = k + 1 := ⟨n' - 1, by omega⟩
    have hrev : (p :: work).reverse.map wkD = work.reverse.map wkD ++ [wkD p] := by rw [List.reverse_cons, List.map_append]; rfl
    rw [hrev] at ru
    obtain ⟨us0, vp, rfl, ru0, rvp⟩ := ru.unsnoc
    have hu0 : us0.length = work.length := by rw [List.length_append] at hul; simpa using hul
    obtain ⟨sm1, sm2, sfn⟩ := sf
    have hres : (match turn (applyT out p.1) (applyT out p.2) work out with | .go work' out' => unifyT n' work' out' | .stop r => r) = unifyT n [(ta, tb)] d := hres
    refine wpAny_execs_nil (wpAny_execs_cons (asg (wpAny_BinOp (nm b0 (v := .int ((n' + 1 : Nat) : Int) tf') (by walk_at "lk") (cint (sub_int (sto (r := r) b0 fun h2 b2 => ?_)))))))
    have hfu : ((n' + 1 : Nat) : Int) - 1 = (n' : Int) := by omega
    rw [hfu] at b2
    -- pair
    have g2 := gz b2.keep
    have hlast : ((us0 ++ [vp]).length : Int) - 1 = (us0.length : Int) := by rw [List.length_append]; simp
    refine wpAny_execs_cons (asg (Subscript_ (nm b2 (v := .ref W') (by walk_at "lk") (wpAny_BinOp (bcall g2.g (g2.miss _ (by decide)) g2.b g2.blen (args_cons (nm b2 (v := .ref W') (by walk_at "lk") (args_nil (lenM (r := r) ⟨_, b2.head, rfl, _, rfl⟩ ?_ fun t3 tk3 => ?_)))))))))
    · rw [List.length_append, hu0]; simp; omega
    refine cint (sub_int ?_)
    rw [hlast]
    have hu : work.reverse.map wkD ++ [wkD p] = work.reverse.map wkD ++ [wkD p] := rfl
    refine itM (r := r) (d := wkD p) ⟨_, b2.head, rfl, _, rfl⟩ ((ru0.append (.one rvp))) (by omega) (by omega) ?_ fun v4 rv4 => ?_
    · rw [Int.toNat_natCast, List.getElem?_append_right (by simp; omega)]; simp [hu0]
    refine sto (r := r) b2 fun h5 b5 => ?_
    have g5 := gz b5.keep
    -- del
    refine wpAny_execs_cons (wpAny_Delete (wpAny_deleteEach_cons (wpAny_delete_Subscript (nm b5 (v := .ref W') (by walk_at "lk") (wpAny_BinOp (bcall g5.g (g5.miss _ (by decide)) g5.b g5.blen (args_cons (nm b5 (v := .ref W') (by walk_at "lk") (args_nil (lenM (r := r) ⟨_, b5.head, rfl, _, rfl⟩ ?_ fun t6 tk6 => ?_))))))))))
    · rw [List.length_append, hu0]; simp; omega
    refine cint (sub_int (delM (r := r) b5 hlast (by omega) fun nn6 h6 b6 => wpAny_deleteEach_nil ?_))
    -- x, y
    have g6 := gz b6.keep
    obtain ⟨f7, e7, fn7⟩ := g6.fn 7 (by decide)
    refine wpAny_execs_cons (asg (gcall g6.g e7 fn7 (args_cons (Subscript_ (nm b6 (v := v4) (by walk_at "lk") (cint (itT (d := tyD p.1) b6.z rv4 (by decide) (by decide) rfl fun vx rvx => ?_)))))))
    refine args_cons (nm b6 (v := .ref D) (by walk_at "lk") (args_nil ⟨fun _ e => e, apply_spec (T := p.1) (d := out) g6 fn7 am1 b6.z rvx (ob.rd b6.swap.head hDn') (by omega) (fun i => by rw [enc_len]; have := sm1 i; omega) fun x h7 Z7 tk7 gr7 rx => ?_⟩))
    have b7 := b6.call gr7
    refine sto (r := r) b7 fun h8 b8 => ?_
    have g8 := gz b8.keep
    obtain ⟨f7', e7', fn7'⟩ := g8.fn 7 (by decide)
    have rv4' := rv4.mono gr7.z0
    have ob7 := ob.mono gr7.z0
    refine wpAny_execs_cons (asg (gcall g8.g e7' fn7' (args_cons (Subscript_ (nm b8 (v := v4) (by walk_at "lk") (cint (itT (d := tyD p.2) b8.z rv4' (by decide) (by decide) rfl fun vy rvy => ?_)))))))
    refine args_cons (nm b8 (v := .ref D) (by walk_at "lk") (args_nil ⟨fun _ e => e, apply_spec (T := p.2) (d := out) g8 fn7' am1 b8.z rvy (ob7.rd b8.swap.head hDn') (by omega) (fun i => by rw [enc_len]; have := sm2 i; omega) fun y h9 Z9 tk9 gr9 ry => ?_⟩))
    have b9 := b8.call gr9
    refine sto (r := r) b9 fun hA bA => ?_
    have gA := gz bA.keep
    have rx := rx.mono gr9.z0
    have obA := ob7.mono gr9.z0
    have ruA : RdAll Z9 us0 (work.reverse.map wkD) := (ru0.mono gr7.z0).mono gr9.z0
    have hzA : Sub Z' Z9 := fun a b e => gr9.z0 a b (gr7.z0 a b e)
    have hXl := sm1.apply
    have hYl := sm2.apply
    generalize applyT out p.1 = X at rx hXl sfn hres
    generalize applyT out p.2 = Y at ry hYl sfn hres
    -- x == y
    refine wpAny_execs_cons (cutIf (decide (X = Y)) ?_ ?_ ?_)
    · exact wpAny_isTrue_Compare1 (nm bA (v := x) (by walk_at "lk") (nm bA (v := y) (by walk_at "lk") (eqTy bA.z rx ry (by have := am1.units; omega) (trB _ rfl ⟨rfl, _, rfl⟩))))
    · intro hq tkB
      have hq := of_decide_eq_true hq
      refine wpAny_execs_cons (wpAny_Continue ⟨Z9, [(W', _), (D, o)], hA, _, tkB, rfl, hzA, bA, n', Nat.lt_succ_self _, W', D, us0, nn6, o, work, out, rfl, by walk_at "lk", by walk_at "lk", ⟨_, by walk_at "lk"⟩, hDn', obA, ruA, ?_, ?_, by omega, by omega⟩)
      · rw [turn_same hq] at sfn; exact sfn
      · rw [turn_same hq] at hres; exact hres
    intro hq tkB
    have hq := of_decide_eq_false hq
    -- the last items
    refine wpAny_execs_nil (wpAny_execs_cons (asg (Subscript_ (nm bA (v := x) (by walk_at "lk") (wpAny_BinOp (bcall gA.g (gA.miss _ (by decide)) gA.b gA.blen (args_cons (nm bA (v := x) (by walk_at "lk") (args_nil (lenL (r := r) bA.z rx ?_ fun tC tkC => ?_))))))))))
    · rw [List.length_map, enc_len]; omega
    refine cint (sub_int (itL (r := r) bA.z rx ?_ ?_ (last_get X) fun xl rxl => sto (r := r) bA fun hC bC => ?_))
    · rw [List.length_map]; have := enc_ne X; omega
    · rw [List.length_map, enc_len]; omega
    have gC := gz bC.keep
    refine wpAny_execs_cons (asg (Subscript_ (nm bC (v := y) (by walk_at "lk") (wpAny_BinOp (bcall gC.g (gC.miss _ (by decide)) gC.b gC.blen (args_cons (nm bC (v := y) (by walk_at "lk") (args_nil (lenL (r := r) bC.z ry ?_ fun tD tkD => ?_)))))))))
    · rw [List.length_map, enc_len]; omega
    refine cint (sub_int (itL (r := r) bC.z ry ?_ ?_ (last_get Y) fun yl ryl => sto (r := r) bC fun hD bD => ?_))
    · rw [List.length_map]; have := enc_ne Y; omega
    · rw [List.length_map, enc_len]; omega
    have gD := gz bD.keep
    refine wpAny_execs_cons (cutIf (decide ((lastIt X).1 = "var")) ?_ ?_ ?_)
    · refine wpAny_isTrue_Compare1 (Subscript_ (nm bD (v := xl) (by walk_at "lk") (cint (itT bD.z rxl (by decide) (by decide) rfl fun x0 r0 => ?_))))
      obtain ⟨t0, rfl⟩ := r0.unstr
      exact cstr (eq_str (trB _ (beqS _ _) ⟨rfl, _, rfl⟩))
    · -- x is a variable
      intro hv tkE
      have hv := of_decide_eq_true hv
      obtain ⟨v, rfl⟩ := lastIt_var hv
      obtain ⟨f5, e5, fn5⟩ := gD.fn 5 (by decide)
      refine wpAny_execs_cons (wpAny_If (wpAny_isTrue_Compare1 (Subscript_ (nm bD (v := xl) (by walk_at "lk") (cint (itT bD.z rxl (by decide) (by decide) rfl fun x1 r1 => ?_))))))
      obtain ⟨t1, rfl⟩ := r1.unint
      refine gcall gD.g e5 fn5 (args_cons (nm bD (v := y) (by walk_at "lk") (args_nil ⟨fun _ e => e, vars_spec gD fn5 am1 bD.z ry (by rw [enc_len]; omega) fun vl ns hE ZE tkE' grE rvl hns => ?_⟩)))
      have bE := bD.call grE
      obtain ⟨l, vs', rfl, il, ri⟩ := rvl.unlist
      refine inI (isList_mono bE.z il) (rd_ints ri) (trB (decide (v ∈ Y.vars)) (by congr 1; exact propext (hns _)) ?_)
      by_cases hin : v ∈ Y.vars
      · refine ifT (decide_eq_true hin) (wpAny_execs_cons (raise_exc hfr hfo am.hh bE g.g Oo fun e h9 tk9 fl => kx Co e h9 tk9 ?_ fl))
        rw [turn_left hq, if_pos hin] at hres
        rw [← hres]; rfl
      · refine ifF (decide_eq_false hin) (wpAny_execs_nil ?_)
        rw [turn_left hq, if_neg hin] at hres sfn
        refine wpAny_execs_cons (wpAny_Assign_Subscript (nm bE (v := y) (by walk_at "lk") (nm bE (v := .ref D) (by walk_at "lk") (Subscript_ (nm bE (v := xl) (by walk_at "lk") (cint (itT bE.z (rxl.mono grE.z0) (by decide) (by decide) rfl fun x2 r2 => ?_)))))))
        obtain ⟨t2, rfl⟩ := r2.unint
        refine setM (r := r) (k := v) bE.swap (obA.mono grE.z0) (by omega) (ry.mono grE.z0) fun o' hF ob' bF => ?_
        have hpl : (putT out v Y).length ≤ out.length + 1 := by unfold putT; split <;> simp
        refine wpAny_execs_nil (wpAny_execs_nil (TurnEnd.next (Ms' := [(W', _), (D, o')]) (fun a b e => grE.z0 a b (hzA a b e)) bF.swap ⟨n', Nat.lt_succ_self _, W', D, us0, nn6, o', work, _, rfl, by walk_at "lk", by walk_at "lk", ⟨_, by walk_at "lk"⟩, hDn', ob', ruA.mono grE.z0, sfn, hres, by omega, by omega⟩))
    intro hv tkE
    have hv := of_decide_eq_false hv
    refine wpAny_execs_cons (cutIf (decide ((lastIt Y).1 = "var")) ?_ ?_ ?_)
    · refine wpAny_isTrue_Compare1 (Subscript_ (nm bD (v := yl) (by walk_at "lk") (cint (itT bD.z ryl (by decide) (by decide) rfl fun x0 r0 => ?_))))
      obtain ⟨t0, rfl⟩ := r0.unstr
      exact cstr (eq_str (trB _ (beqS _ _) ⟨rfl, _, rfl⟩))
    · -- y is a variable
      intro hw tkF
      have hw := of_decide_eq_true hw
      obtain ⟨v, rfl⟩ := lastIt_var hw
      rw [turn_right hv] at hres sfn
      obtain ⟨f5, e5, fn5⟩ := gD.fn 5 (by decide)
      refine wpAny_execs_cons (wpAny_If (wpAny_isTrue_Compare1 (Subscript_ (nm bD (v := yl) (by walk_at "lk") (cint (itT bD.z ryl (by decide) (by decide) rfl fun x1 r1 => ?_))))))
      obtain ⟨t1, rfl⟩ := r1.unint
      refine gcall gD.g e5 fn5 (args_cons (nm bD (v := x) (by walk_at "lk") (args_nil ⟨fun _ e => e, vars_spec gD fn5 am1 bD.z rx (by rw [enc_len]; omega) fun vl ns hE ZE tkE' grE rvl hns => ?_⟩)))
      have bE := bD.call grE
      obtain ⟨l, vs', rfl, il, ri⟩ := rvl.unlist
      refine inI (isList_mono bE.z il) (rd_ints ri) (trB (decide (v ∈ X.vars)) (by congr 1; exact propext (hns _)) ?_)
      by_cases hin : v ∈ X.vars
      · refine ifT (decide_eq_true hin) (wpAny_execs_cons (raise_exc hfr hfo am.hh bE g.g Oo fun e h9 tk9 fl => kx Co e h9 tk9 ?_ fl))
        rw [if_pos hin] at hres
        rw [← hres]; rfl
      · refine ifF (decide_eq_false hin) (wpAny_execs_nil ?_)
        rw [if_neg hin] at hres sfn
        refine wpAny_execs_cons (wpAny_Assign_Subscript (nm bE (v := x) (by walk_at "lk") (nm bE (v := .ref D) (by walk_at "lk") (Subscript_ (nm bE (v := yl) (by walk_at "lk") (cint (itT bE.z (ryl.mono grE.z0) (by decide) (by decide) rfl fun x2 r2 => ?_)))))))
        obtain ⟨t2, rfl⟩ := r2.unint
        refine setM (r := r) (k := v) bE.swap (obA.mono grE.z0) (by omega) (rx.mono grE.z0) fun o' hF ob' bF => ?_
        have hpl : (putT out v X).length ≤ out.length + 1 := by unfold putT; split <;> simp
        refine wpAny_execs_nil (wpAny_execs_nil (wpAny_execs_nil (TurnEnd.next (Ms' := [(W', _), (D, o')]) (fun a b e => grE.z0 a b (hzA a b e)) bF.swap ⟨n', Nat.lt_succ_self _, W', D, us0, nn6, o', work, _, rfl, by walk_at "lk", by walk_at "lk", ⟨_, by walk_at "lk"⟩, hDn', ob', ruA.mono grE.z0, sfn, hres, by omega, by omega⟩)))
    intro hw tkF
    have hw := of_decide_eq_false hw
    refine wpAny_execs_cons (cutIf (decide (lastIt X = lastIt Y)) ?_ ?_ ?_)
    · obtain ⟨as3, rd3⟩ := rxl.mono bD.z
      obtain ⟨as4, rd4⟩ := ryl.mono bD.z
      refine wpAny_isTrue_Compare1 (nm bD (v := xl) (by walk_at "lk") (nm bD (v := yl) (by walk_at "lk") (PySem.SeqAt.compareEq_reads (s := St r hD _) rd3 rd4 (canLay_last X) (canLay_last Y) ?_ (trB _ (eqv_it _ _) ⟨rfl, _, rfl⟩))))
      rw [depth_it, depth_it]; have := am1.units; show _ + 1 < _; omega
    · -- two nodes
      intro hl tkG
      have hl := of_decide_eq_true hl
      obtain ⟨mk, l, u, l', u', rfl, rfl, ht⟩ := turn_both work out hq hv hl
      rw [ht] at hres sfn
      obtain ⟨f4, e4', fn4⟩ := gD.fn 4 (by decide)
      refine wpAny_execs_cons (asg (gcall gD.g e4' fn4 (args_cons (nm bD (v := x) (by walk_at "lk") (args_nil ⟨fun _ e => e, parts_spec gD fn4 am1 bD.z rx (by rw [enc_len]; omega) fun px hG ZG tkG' grG rpx => sto (r := r) (bD.call grG) fun hH bH => ?_⟩)))))
      have gH := gz bH.keep
      obtain ⟨f4', e4'', fn4'⟩ := gH.fn 4 (by decide)
      refine wpAny_execs_cons (asg (gcall gH.g e4'' fn4' (args_cons (nm bH (v := y) (by walk_at "lk") (args_nil ⟨fun _ e => e, parts_spec gH fn4' am1 bH.z (ry.mono grG.z0) (by rw [enc_len]; omega) fun py hI ZI tkI grI rpy => sto (r := r) (bH.call grI) fun hJ bJ => ?_⟩)))))
      have rpx := rpx.mono grI.z0
      have obJ := (obA.mono grG.z0).mono grI.z0
      have ruJ := (ruA.mono grG.z0).mono grI.z0
      -- the second parts
      refine wpAny_execs_cons (wpAny_Expr (wpAny_Call_append (by rfl) (by rfl) (by rfl) (by rfl) (nm bJ (v := .ref W') (by walk_at "lk") ⟨W', us0.toArray, rfl, ⟨_, nn6, bJ.head, rfl, rfl, rfl⟩, ?_⟩)))
      refine Tuple_ (args_cons (Subscript_ (nm bJ (v := px) (by walk_at "lk") (cint (itL (d := tyD u) bJ.z rpx (by decide) (by decide) rfl fun p1 rp1 => args_cons (Subscript_ (nm bJ (v := py) (by walk_at "lk") (cint (itL (d := tyD u') bJ.z rpy (by decide) (by decide) rfl fun p2 rp2 => args_nil (newT (r := r) ?_))))))))))
      obtain ⟨ZK, hsK, bK, eK⟩ := bJ.frozen { cls := .type "tuple", data := .seq [p1, p2].toArray } rfl
      have rk : Rd ZK (.ref hJ.objs.size) (wkD (u, u')) := Rd.tuple eK (.cons (rp1.mono hsK) (.cons (rp2.mono hsK) .nil))
      refine appM (r := r) bK (fun hL bL => ?_) (by rw [sizeLine_eq]; simp; omega)
      have rpx := rpx.mono hsK
      have rpy := rpy.mono hsK
      -- the first parts
      refine wpAny_execs_cons (wpAny_Expr (wpAny_Call_append (by rfl) (by rfl) (by rfl) (by rfl) (nm bL (v := .ref W') (by walk_at "lk") ⟨W', _, rfl, ⟨_, nn6 + 1, bL.head, rfl, rfl, rfl⟩, ?_⟩)))
      refine Tuple_ (args_cons (Subscript_ (nm bL (v := px) (by walk_at "lk") (cint (itL (d := tyD l) bL.z rpx (by decide) (by decide) rfl fun p3 rp3 => args_cons (Subscript_ (nm bL (v := py) (by walk_at "lk") (cint (itL (d := tyD l') bL.z rpy (by decide) (by decide) rfl fun p4 rp4 => args_nil (newT (r := r) ?_))))))))))
      obtain ⟨ZM, hsM, bM, eM⟩ := bL.frozen { cls := .type "tuple", data := .seq [p3, p4].toArray } rfl
      have rm : Rd ZM (.ref hL.objs.size) (wkD (l, l')) := Rd.tuple eM (.cons (rp3.mono hsM) (.cons (rp4.mono hsM) .nil))
      refine appM (r := r) bM (fun hN bN => ?_) (by rw [sizeLine_eq]; simp; omega)
      have hzN : Sub Z' ZM := fun a b e => hsM a b (hsK a b (grI.z0 a b (grG.z0 a b (hzA a b e))))
      have hus : ((us0.toArray.push (.ref hJ.objs.size)).push (.ref hL.objs.size)) = (us0 ++ [Value.ref hJ.objs.size] ++ [Value.ref hL.objs.size]).toArray := by simp
      rw [hus] at bN
      refine wpAny_execs_nil (wpAny_execs_nil (wpAny_execs_nil (wpAny_execs_nil (TurnEnd.next (Ms' := [(W', _), (D, o)]) hzN bN ⟨n', Nat.lt_succ_self _, W', D, us0 ++ [.ref hJ.objs.size] ++ [.ref hL.objs.size], nn6 + 1 + 1, o, (l, l') :: (u, u') :: work, out, rfl, by walk_at "lk", by walk_at "lk", ⟨_, by walk_at "lk"⟩, hDn', (obJ.mono hsK).mono hsM, ?_, sfn, hres, by simp only [List.length_cons]; omega, by omega⟩))))
      rw [List.reverse_cons, List.reverse_cons, List.map_append, List.map_append]
      exact (((ruJ.mono hsK).mono hsM).append (.one (rk.mono hsM))).append (.one rm)
    · intro hl tkG
      have hl := of_decide_eq_false hl
      rw [turn_clash hv hw hl] at hres
      refine wpAny_execs_cons (raise_exc hfr hfo am.hh bD g.g Oc fun e h9 tk9 fl => kx Cc e h9 tk9 ?_ fl)
      rw [← hres]; rfl
end
end Mine

namespace Mine
open PySem PyProof.Rows PySem.Calls
set_option maxRecDepth 100000

local macro_rules | `(tactic| walk_at "lk") => `(tactic| first | assumption | exact up_self | (refine up_ne (by decide) ?_; walk_at "lk"))

/-- after a raise that was caught below: all but the frames' objects stay -/
theorem At.flown {h₀ Z₀ Z : Heap} {L : Addr} {Ms : List (Addr × Obj)} {h h' : Heap} {m : Str → Option Value} (a : At h₀ Z₀ Z L Ms h m) (hk : ∀ b o, h.get? b = some o → b ≠ L → h'.get? b = some o) (hu : h.UpToSlots h') : At h₀ Z₀ Z L Ms h' m := by
  refine ⟨hu.ns a.ns, fun b o e => hk b o (a.keep b o e) (a.base_ne e), a.above, fun b o e => hk b o (a.z b o e) ?_, a.zL, a.z0, a.new, fun p hp => ?_, a.nd⟩
  · rintro rfl; rw [a.zL] at e; cases e
  · obtain ⟨e, n1, n2⟩ := a.ms p hp
    exact ⟨hk _ _ e n1, n1, n2⟩

def resStr : Res → Option Str
  | .clash => some "clash"
  | .occurs => some "occurs"
  | .fuel => some "fuel"
  | .ok _ => none

section
variable {prog : Program} {w : World} {A : Around} {E : Value → Shared → Prop} {h : Heap} {r : Shared} {tk : Nat} {mg mb : Str → Option Value} {env : Env}

theorem hand_miss {e C D : Addr} {x y np : _} {b : List Stmt} {pos : Pos} {rest : List ExceptHandler} {oe : Obj} {Q : Flow → Shared → Prop} (g : h.Ns env.globals mg) (O : ExcAt mg h x C) (O' : ExcAt mg h y D) (hne : C ≠ D) (he : h.get? e = some oe) (hc : oe.cls = .ref C)
    (k : wpAny (model prog w) A (handleBy (.ref e) env rest) Q E (St r h tk))
    (hk : env.scope.kind = .function := by rfl) (hx : env.kindOf y = some .globalImplicit := by rfl) (hd : (y == ("__debug__" : Str)) = false := by decide) :
    wpAny (model prog w) A (handleBy (.ref e) env (.ExceptHandler (some (.Name y np)) none b pos :: rest)) Q E (St r h tk) :=
  wpAny_handleBy_cons (codeAny_handlers_test (gname g O'.1 (exc_other O O' hne he hc k) hk hx hd)) (by intro q; cases q)
theorem hand_hit {e C : Addr} {x : Str} {np : Pos} {str : Str} {kk : Nat} {cp rp pos : Pos} {rest : List ExceptHandler} {B : Heap} {fs : List Env} {a0 : Value} {Q : Flow → Shared → Prop} (g : h.Ns env.globals mg) (O : ExcAt mg h x C)
    (hfl : Heap.FlyingW B fs e (.ref C) a0 h)
    (k : ∀ h' t tk', B.StaysIn h' → h.UpToSlots h' → Q (.ret (.str str t)) (St r h' tk'))
    (hk : env.scope.kind = .function := by rfl) (hx : env.kindOf x = some .globalImplicit := by rfl) (hd : (x == ("__debug__" : Str)) = false := by decide) :
    wpAny (model prog w) A (handleBy (.ref e) env (.ExceptHandler (some (.Name x np)) none [.Return (some (.Constant (.str str) kk cp)) rp] pos :: rest)) Q E (St r h tk) := by
  obtain ⟨ob, hob, hobc⟩ := hfl.2.2.2.at.there
  refine wpAny_handleBy_cons (codeAny_handlers_test (gname g O.1 (exc_self O hob hobc (codeAny_handlers_suite ?_)) hk hx hd)) (by intro q; cases q)
  refine lands_againW hfl fun h6 hfl6 hsm6 => ?_
  exact wpAny_execs_cons (wpAny_Return_some (cstr (k h6 _ _ hfl6.1 hsm6)))
end

section
variable {prog : Program} {w : World} {A : Around} {E : Value → Shared → Prop} {Z h : Heap} {r : Shared} {tk : Nat} {mg mb : Str → Option Value}

set_option maxHeartbeats 4000000 in
theorem end_spec {Y : Heap} {f : Addr} {va vb vs : Value} {ta tb : Ty} {d : Dc} {n : Nat} {tf : Tok} {outer : List Env} {Cc Co Cf : Addr} {Q : Value → Shared → Prop} (g : Gl mg mb h) (fn : FnAt h f (nameF 16) (paramsF 16) (bodyF 16) (scopeF 16)) (am : Amb A 5 26)
    (hfr : A.frames = some outer) (hfo : FrOk h outer) (hY : Sub Y h) (hYf : ∀ env ∈ outer, ∀ L, env.frame = some L → Y.get? L = none) (gY : Y.Ns mainGlobals mg)
    (Oc : ExcAt mg Y "ClashError" Cc) (Oo : ExcAt mg Y "OccursError" Co) (Of : ExcAt mg Y "FuelError" Cf) (n1 : Cc ≠ Co) (n2 : Cc ≠ Cf) (n3 : Co ≠ Cf)
    (hz : Sub Z h) (ha : Rd Z va (tyD ta)) (hb : Rd Z vb (tyD tb)) (hd : RdD prog w Z Z vs (dD d)) (hnd : (d.map (·.1)).Nodup) (hdl : d.length ≤ 1000) (hds : ∀ p ∈ d, p.2.len ≤ 1000) (hn : n ≤ 1000) (hsafe : Safe n [(ta, tb)] d)
    (k : ∀ v out h' Z' tk', unifyT n [(ta, tb)] d = .ok out → Grown h Z h' Z' → RdD prog w Z' Z' v (dD out) → Q v (St r h' tk'))
    (kx : ∀ x t h' tk', resStr (unifyT n [(ta, tb)] d) = some x → (∀ b o, h.get? b = some o → (∀ env ∈ outer, env.frame ≠ some b) → h'.get? b = some o) → h.UpToSlots h' → Q (.str x t) (St r h' tk')) :
    wpAny (model prog w) A (call (.ref f) [va, vb, vs, .int (n : Int) tf]) Q E (St r h tk) := by
  refine callF (binds := [("a", va), ("b", vb), ("s", vs), ("fuel", .int (n : Int) tf)]) fn g.nolimit am.room hz (fun _ _ _ _ _ => rfl) (by rfl) (by decide) (fun cd h₁ tk₁ a => ?_)
  generalize hm : (fun x => List.lookup x [(Str.ofString "a", va), (Str.ofString "b", vb), (Str.ofString "s", vs), (Str.ofString "fuel", .int (n : Int) tf)].reverse) = m at a
  have ma : m "a" = some va := by rw [← hm]; rfl
  have mb' : m "b" = some vb := by rw [← hm]; rfl
  have ms : m "s" = some vs := by rw [← hm]; rfl
  have mf : m "fuel" = some (.int (n : Int) tf) := by rw [← hm]; rfl
  have am1 : Amb (A.deeper (envOf (nameF 16) (scopeF 16) h.objs.size f cd)) 4 23 := am.deeper _
  have g1 := g.mono a.keep
  obtain ⟨f8, e8, fn8⟩ := g1.fn 8 (by decide)
  have hY1 : Sub Y h₁ := fun b o e => a.keep b o (hY b o e)
  have hfr1 := Around.frames_deeper (env := envOf (nameF 16) (scopeF 16) h.objs.size f cd) hfr
  have hfo1 : FrOk h₁ (envOf (nameF 16) (scopeF 16) h.objs.size f cd :: outer) := by
    intro env he
    rcases List.mem_cons.mp he with rfl | he
    · obtain ⟨o, es, ep, ho, hdd, _⟩ := a.ns
      exact ⟨by show (scopeF 16).kind ≠ .module; decide, _, o, rfl, ho, fun vs q => by rw [hdd] at q; cases q⟩
    · obtain ⟨q1, L, o, q2, q3, q4⟩ := hfo env he
      exact ⟨q1, L, o, q2, a.keep _ _ q3, q4⟩
  refine wpAny_execs_cons (wpAny_Try_except (wpAny_execs_cons (asg (gcall g1.g e8 fn8 (args_cons (nm a (v := va) (by walk_at "lk") (args_cons (nm a (v := vb) (by walk_at "lk") (args_cons (nm a (v := vs) (by walk_at "lk") (args_cons (nm a (v := .int (n : Int) tf) (by walk_at "lk") (args_nil ⟨fun _ e => e, ?_⟩)))))))))))))
  refine unify_spec g1 fn8 am1 hfr1 hfo1 (Oc.mono hY1) (Oo.mono hY1) (Of.mono hY1) a.z ha hb hd hnd hdl hds hn hsafe (fun v out h' Z' tk' hr gr rv => ?_) (fun C e h' tk' hC fl => ?_)
  · refine sto (r := r) (a.call gr) fun h2 a2 => wpAny_execs_nil (wpAny_execs_nil (wpAny_execs_cons (wpAny_Return_some (nm a2 (v := v) (by walk_at "lk") ?_))))
    exact k v out h2 Z' _ hr a2.grown rv
  · obtain ⟨B, a0, hB, hfl, hup⟩ := fl
    have hBY : ∀ b o, Y.get? b = some o → B.get? b = some o := fun b o e => hB b o (hY1 b o e) fun env he q => by
      rcases List.mem_cons.mp he with rfl | he
      · have q : some h.objs.size = some b := q
        injection q with q
        exact a.base_ne (hY b o e) q.symm
      · rw [hYf env he b q] at e; cases e
    refine wpAny_looks_onW (s := St r h' tk') hfr1 rfl hfl fun h4 hheld4 hsm4 => ?_
    refine wpAny_landsW hheld4 fun h5 hheld hsm5 => ?_
    have hY5 : Sub Y h5 := fun b o e => hheld.1 b o (hBY b o e)
    have g5 : h5.Ns mainGlobals mg := gY.keeps hY5
    obtain ⟨ob, hob, hobc⟩ := hheld.2.2.2.at.there
    have fin : ∀ x, resStr (unifyT n [(ta, tb)] d) = some x → ∀ h6 t tk6, B.StaysIn h6 → h5.UpToSlots h6 → Q (.str x t) (St r h6 tk6) := by
      intro x hx h6 t tk6 hs6 hu6
      refine kx x t h6 tk6 hx (fun b o e n => hs6 b o (hB b o (a.keep b o e) fun env he q => ?_)) ((((Heap.UpToSlots.of_keeps a.keep).trans hup).trans (hsm4.trans hsm5)).trans hu6)
      rcases List.mem_cons.mp he with rfl | he
      · have q : some h.objs.size = some b := q
        injection q with q
        exact a.base_ne e q.symm
      · exact n env he q
    show wpAny _ _ (handleBy _ _ _) _ _ (St r h5 tk')
    cases hr : unifyT n [(ta, tb)] d with
    | ok out => rw [hr] at hC; exact hC.elim
    | clash =>
      rw [hr] at hC fin
      have hC : C = Cc := hC
      subst hC
      exact hand_hit g5 (Oc.mono hY5) hheld fun h6 t tk6 q1 q2 => fin _ rfl h6 t tk6 q1 q2
    | occurs =>
      rw [hr] at hC fin
      have hC : C = Co := hC
      subst hC
      exact hand_miss g5 (Oo.mono hY5) (Oc.mono hY5) (Ne.symm n1) hob hobc (hand_hit g5 (Oo.mono hY5) hheld fun h6 t tk6 q1 q2 => fin _ rfl h6 t tk6 q1 q2)
    | fuel =>
      rw [hr] at hC fin
      have hC : C = Cf := hC
      subst hC
      exact hand_miss g5 (Of.mono hY5) (Oc.mono hY5) (Ne.symm n2) hob hobc (hand_miss g5 (Of.mono hY5) (Oo.mono hY5) (Ne.symm n3) hob hobc (hand_hit g5 (Of.mono hY5) hheld fun h6 t tk6 q1 q2 => fin _ rfl h6 t tk6 q1 q2))
end
end Mine

namespace Mine
open PySem PyProof.Rows PySem.Calls
set_option maxRecDepth 100000

local macro_rules | `(tactic| walk_at "lk") => `(tactic| first | assumption | exact up_self | (refine up_ne (by decide) ?_; walk_at "lk"))

def cellN (ns : List Int) (i : Nat) (k : Int) : Int := ((ns[i]?).getD 0).fmod k
theorem cellN_range (ns : List Int) (i : Nat) {k : Int} (hk : 0 < k) : 0 ≤ cellN ns i k ∧ cellN ns i k < k := ⟨Int.fmod_nonneg_of_pos _ hk, Int.fmod_lt_of_pos _ hk⟩

section
variable {prog : Program} {w : World} {A : Around} {E : Value → Shared → Prop} {Z h : Heap} {r : Shared} {tk : Nat} {mg mb : Str → Option Value}

theorem cell_spec {f : Addr} {vs : Value} {ns : List Int} {i : Nat} {ti tk0 : Tok} {kk : Int} {Q : Value → Shared → Prop} (g : Gl mg mb h) (fn : FnAt h f (nameF 12) (paramsF 12) (bodyF 12) (scopeF 12)) (am : Amb A 1 3)
    (hz : Sub Z h) (hs : Rd Z vs (intsD ns)) (hlen : ns.length ≤ 63) (hi : i ≤ 1000) (hk : 0 < kk)
    (k : ∀ t h' tk', Grown h Z h' Z → Q (.int (cellN ns i kk) t) (St r h' tk')) :
    wpAny (model prog w) A (call (.ref f) [vs, .int (i : Int) ti, .int kk tk0]) Q E (St r h tk) := by
  refine callF (binds := [("script", vs), ("i", .int (i : Int) ti), ("k", .int kk tk0)]) fn g.nolimit am.room hz (fun _ _ _ _ _ => rfl) (by rfl) (by decide) (fun cd h₁ tk₁ a => ?_)
  generalize hm : (fun x => List.lookup x [(Str.ofString "script", vs), (Str.ofString "i", .int (i : Int) ti), (Str.ofString "k", .int kk tk0)].reverse) = m at a
  have m1 : m "script" = some vs := by rw [← hm]; rfl
  have m2 : m "i" = some (.int (i : Int) ti) := by rw [← hm]; rfl
  have m3 : m "k" = some (.int kk tk0) := by rw [← hm]; rfl
  have g1 := g.mono a.keep
  refine wpAny_execs_cons (cutIf (decide (i < ns.length)) ?_ ?_ ?_)
  · refine wpAny_isTrue_Compare1 (nm a (v := .int (i : Int) ti) m2 (bcall g1.g (g1.miss _ (by decide)) g1.b g1.blen (args_cons (nm a (v := vs) m1 (args_nil (lenL a.z hs (by rw [List.length_map]; omega) fun t tk2 => lt_int (trB _ ?_ ⟨rfl, _, rfl⟩)))))))
    rw [List.length_map]; congr 1; exact propext (by omega)
  · intro hb tk2
    have hb := of_decide_eq_true hb
    refine wpAny_execs_cons (wpAny_Return_some (wpAny_BinOp (Subscript_ (nm a (v := vs) m1 (nm a (v := .int (i : Int) ti) m2 (itL (d := .int ns[i]) a.z hs (by omega) (by omega) (by simp [hb]) fun v rv => ?_))))))
    obtain ⟨t, rfl⟩ := rv.unint
    refine nm a (v := .int kk tk0) m3 (mod_int (by omega) ?_)
    have e : ns[i].fmod kk = cellN ns i kk := by unfold cellN; simp [hb]
    rw [e]
    exact k _ _ _ a.grown
  · intro hb tk2
    have hb := of_decide_eq_false hb
    refine wpAny_execs_nil (wpAny_execs_cons (wpAny_Return_some (cint ?_)))
    have e : cellN ns i kk = 0 := by unfold cellN; rw [List.getElem?_eq_none (by omega)]; simp
    rw [← e]
    exact k _ _ _ a.grown
end
end Mine

namespace Mine
open PySem PyProof.Rows PySem.Calls
set_option maxRecDepth 100000

theorem At.other {h₀ Z₀ Z : Heap} {L C : Addr} {Ms : List (Addr × Obj)} {h h' : Heap} {m : Str → Option Value} (a : At h₀ Z₀ Z L Ms h m) (hs : Heap.SameBut C h h') (n1 : C ≠ L) (n2 : h₀.get? C = none) (n3 : Z.get? C = none) (n4 : ∀ p ∈ Ms, p.1 ≠ C) : At h₀ Z₀ Z L Ms h' m := by
  refine ⟨a.ns.sameBut hs (Ne.symm n1), fun b o e => (hs.2 b ?_).trans (a.keep b o e), a.above, fun b o e => (hs.2 b ?_).trans (a.z b o e), a.zL, a.z0, a.new, fun p hp => ?_, a.nd⟩
  · rintro rfl; rw [n2] at e; cases e
  · rintro rfl; rw [n3] at e; cases e
  · obtain ⟨e, q⟩ := a.ms p hp
    exact ⟨(hs.2 _ (n4 p hp)).trans e, q⟩

theorem Walks.weaken {prog : Program} {w : World} {A : Around} {I : Addr} {fp wr : List Addr} {n : Nat} {P P' : Nat → Value → Prop} {S : Nat → Heap → Prop} (W : Walks prog w A I fp wr n P S) (h : ∀ i v, P i v → P' i v) : Walks prog w A I fp wr n P' S :=
  ⟨W.sub, W.frame, fun i s Q E hi st hQ => W.item i s Q E hi st fun v h' tk p => hQ v h' tk (h i v p), W.done, W.self⟩

/-- the items of a sequence -/
abbrev OfL (Z : Heap) (ds : List PyData) (i : Nat) (u : Value) : Prop := ∃ d, ds[i]? = some d ∧ Rd Z u d
/-- an iterator stands ready over the heap h -/
def ItOn (prog : Program) (w : World) (A : Around) (r : Shared) (Z h : Heap) (n : Nat) (P : Nat → Value → Prop) (it : Value) (s : Shared) : Prop :=
  ∃ I oI fp SI h2 tk2, it = .ref I ∧ s = St r h2 tk2 ∧ Walks prog w A I fp [I] n P SI ∧ (∀ i h, SI i h → ∃ o, h.get? I = some o) ∧ Sub h h2 ∧ h.objs.size ≤ h2.objs.size ∧ h.get? I = none ∧ h2.get? I = some oI ∧ SI 0 h2 ∧ (∀ b ∈ fp, b = I ∨ ∃ x, Z.get? b = some x)

section
variable {prog : Program} {w : World} {A : Around} {E : Value → Shared → Prop} {env : Env} {h₀ Z₀ Z : Heap} {L : Addr} {Ms T : List (Addr × Obj)} {h h1 : Heap} {m : Str → Option Value} {r : Shared} {tk : Nat}

theorem push_sub (h : Heap) (o : Obj) : Sub h (h.push o) := fun _ _ e => Heap.get?_push_of_some o e
theorem none_of_sub {h h' : Heap} (hs : Sub h h') {a : Addr} (e : h'.get? a = none) : h.get? a = none := by
  cases q : h.get? a with
  | none => rfl
  | some o => rw [hs a o q] at e; cases e

theorem it_list {v : Value} {ds : List PyData} (hh : A.handled = none) (hz : Sub Z h1) (hs : Sub h h1) (hsz : h.objs.size ≤ h1.objs.size) (hl : Rd Z v (.list ds)) :
    wpAny (model prog w) A (pyIter v) (ItOn prog w A r Z h ds.length (OfL Z ds)) E (St r h1 tk) := by
  obtain ⟨l, vs, rfl, il, ra⟩ := hl.unlist
  have il' := isList_mono hz il
  obtain ⟨ol, hol, hcl⟩ := id il
  have hne : l ≠ h1.objs.size := Nat.ne_of_lt (Heap.lt_size (hz l ol hol))
  have e : vs.toArray.size = ds.length := by simpa using ra.length
  refine wpAny_pyIter_list il' ⟨h1.objs.size, _, _, _, _, _, rfl, rfl, e ▸ Walks.weaken (Walks.list hh h1.objs.size l hne vs.toArray) (fun i u hu => ?_), fun i h s => let ⟨⟨o, e, _⟩, _⟩ := s; ⟨o, e⟩, fun a o q => push_sub _ _ a o (hs a o q), (by rw [Heap.size_push]; exact Nat.le_succ_of_le hsz), none_of_sub hs (At.size_none _), Heap.get?_push_size _ rfl, ⟨⟨_, Heap.get?_push_size _ rfl, rfl, rfl⟩, il'.push _⟩, ?_⟩
  · intro b hb
    rcases List.mem_cons.mp hb with rfl | hb
    · exact .inl rfl
    · exact .inr ⟨ol, by rw [List.mem_singleton.mp hb]; exact hol⟩
  · have hu : vs[i]? = some u := by simpa using hu
    have hi : i < ds.length := by have := (List.getElem?_eq_some_iff.mp hu).1; have := ra.length; omega
    obtain ⟨v', hv', rv⟩ := ra.get (i := i) (d := ds[i]) (by simp [hi])
    rw [hu] at hv'; cases hv'
    exact ⟨ds[i], by simp [hi], rv⟩
theorem isTuple_of {Z : Heap} {a : Addr} {its : Array Value} (x : IsTup Z a its) : Z.IsTuple a its := x
theorem it_tuple {v : Value} {ds : List PyData} (hh : A.handled = none) (hz : Sub Z h1) (hs : Sub h h1) (hsz : h.objs.size ≤ h1.objs.size) (hl : Rd Z v (.tuple ds)) :
    wpAny (model prog w) A (pyIter v) (ItOn prog w A r Z h ds.length (OfL Z ds)) E (St r h1 tk) := by
  obtain ⟨l, vs, rfl, il, ra⟩ := hl.untup
  have il' := isTup_mono hz il
  obtain ⟨ol, hol, hcl⟩ := id il
  have hne : l ≠ h1.objs.size := Nat.ne_of_lt (Heap.lt_size (hz l ol hol))
  have e : vs.toArray.size = ds.length := by simpa using ra.length
  refine wpAny_pyIter_tuple il' ⟨h1.objs.size, _, _, _, _, _, rfl, rfl, e ▸ Walks.weaken (Walks.tuple hh h1.objs.size l hne vs.toArray) (fun i u hu => ?_), fun i h s => let ⟨⟨o, e, _⟩, _⟩ := s; ⟨o, e⟩, fun a o q => push_sub _ _ a o (hs a o q), (by rw [Heap.size_push]; exact Nat.le_succ_of_le hsz), none_of_sub hs (At.size_none _), Heap.get?_push_size _ rfl, ⟨⟨_, Heap.get?_push_size _ rfl, rfl, rfl⟩, isTup_mono (push_sub _ _) il'⟩, ?_⟩
  · intro b hb
    rcases List.mem_cons.mp hb with rfl | hb
    · exact .inl rfl
    · exact .inr ⟨ol, by rw [List.mem_singleton.mp hb]; exact hol⟩
  · have hu : vs[i]? = some u := by simpa using hu
    have hi : i < ds.length := by have := (List.getElem?_eq_some_iff.mp hu).1; have := ra.length; omega
    obtain ⟨v', hv', rv⟩ := ra.get (i := i) (d := ds[i]) (by simp [hi])
    rw [hu] at hv'; cases hv'
    exact ⟨ds[i], by simp [hi], rv⟩
/-- range(lo, hi) or range(hi) made and opened -/
theorem it_rangeAt {lo hi : Int} {R : Addr} {t1 t2 t3 : Tok} (hh : A.handled = none) (hs : Sub h h1) (hsz : h.objs.size ≤ h1.objs.size) (hR : IsRange h1 R lo hi 1 t1 t2 t3) (h1' : -(2 ^ 62) ≤ lo) (h2' : lo < 2 ^ 62) (h3' : -(2 ^ 62) ≤ hi) (h4' : hi < 2 ^ 62) :
    wpAny (model prog w) A (pyIter (.ref R)) (ItOn prog w A r Z h (hi - lo).toNat fun i u => ∃ t, u = .int (lo + (i : Int)) t) E (St r h1 tk) := by
  refine wpAny_pyIter_range (s := St r h1 tk) hR (small_one h1' h2' h3' h4') ?_
  have hsz' : Builtin.Range.rangeSize lo hi 1 = ((hi - lo).toNat : Int) := by rw [rangeSize_one]; split <;> omega
  rw [hsz']
  refine ⟨h1.objs.size, _, _, _, _, _, rfl, rfl, Walks.weaken (Walks.range hh h1.objs.size lo 1 (hi - lo).toNat) (fun i u hu => ?_), fun i h s => ⟨_, s⟩, fun a o q => push_sub _ _ a o (hs a o q), (by rw [Heap.size_push]; exact Nat.le_succ_of_le hsz), none_of_sub hs (At.size_none _), Heap.get?_push_size _ rfl, ?_, fun b hb => .inl (List.mem_singleton.mp hb)⟩
  · obtain ⟨t, rfl⟩ := hu
    exact ⟨t, by simp⟩
  · show IsRangeIter _ _ (lo + ((0 : Nat) : Int) * 1) (((hi - lo).toNat : Int) - ((0 : Nat) : Int)) 1
    have e1 : (lo + ((0 : Nat) : Int) * 1) = lo := by simp
    have e2 : (((hi - lo).toNat : Int) - ((0 : Nat) : Int)) = ((hi - lo).toNat : Int) := by simp
    rw [e1, e2]; exact Heap.get?_push_size _ rfl

theorem filterMap_range_succ {D : Nat → Option PyData} (i : Nat) : (List.range (i + 1)).filterMap D = (List.range i).filterMap D ++ (D i).toList := by
  rw [List.range_succ, List.filterMap_append]; cases h : D i <;> simp [h]

theorem comp_block {elt iter : Expr} {x : Str} {px : Pos} {ifs : List Expr} {scope : Scope} {cl : List (Str × Addr)} {pos : Pos} {n : Nat} {P : Nat → Value → Prop} {it : Value} {s₂ : Shared} {RR : Value → Addr → Result → Shared → Prop}
    (ready : ItOn prog w A r Z h n P it s₂) (hz : Sub Z h) (hn : n ≤ 1000)
    (hcell : ∀ y ∈ scope.names, y.2 ≠ .cell) (hkind : scope.kind = .function) (hx : scope.names.lookup x = some .local)
    (D : Nat → Option PyData)
    (turn : ∀ i v C Z' T' h' m' tk', i < n → P i v → Sub Z Z' → At h Z Z' C T' h' m' → m' x = some v →
      wpAny (model prog w) A (forIn ifs true fun c r => if r = true then do let ok ← isTrue c (compEnvC scope cl C env) (eval c (compEnvC scope cl C env)); pure (ForInStep.yield ok) else pure (ForInStep.yield r))
        (fun ok s₃ => ok = (D i).isSome ∧ ∃ tk3, s₃ = St r h' tk3 ∧ ∀ d, D i = some d →
          wpAny (model prog w) A (eval elt (compEnvC scope cl C env)) (fun y s₄ => ∃ h4 Z4 tk4 m4, s₄ = St r h4 tk4 ∧ Sub Z' Z4 ∧ At h Z Z4 C T' h4 m4 ∧ Rd Z4 y d) (fun _ _ => False) s₃) (fun _ _ => False) (St r h' tk'))
    (done : ∀ acc C h' Z' m' tk', Grown h Z h' Z' → Rd Z' acc (.list ((List.range n).filterMap D)) → h.get? C = none → Z'.get? C = none → h'.Ns C m' → RR acc C (.ok .next) (St r h' tk')) :
    wpAny (model prog w) A (newList []) (fun acc s₃ => wpAny (model prog w) A (newFunctionEnv scope env.globals cl [] env.qual none .none (some env)) (fun cenv s₄ =>
      codeAny (model prog w) A (.compStart (.ListComp elt [⟨.Name x px, iter, ifs, 0⟩] scope pos) 0 it acc { cenv with scope := relabel scope env }) (RR acc cenv.locals) s₄) E s₃) E s₂ := by
  obtain ⟨I, oI, fp, SI, h2, tk2, rfl, rfl, W, live, hs2, hsz2, hIn, hI2, si, hfp⟩ := ready
  refine newL (r := r) (wpAny_newFunctionEnv hcell (by intro y hy; simp at hy) (fun h₁ hns₁ hsb₁ => ?_) hkind)
  dsimp only at hns₁ hsb₁ ⊢
  generalize hH3 : h2.push { cls := .type "list", data := .seq ([] : List Value).toArray } = H3 at hns₁ hsb₁ ⊢
  have hC : H3.objs.size = h2.objs.size + 1 := by rw [← hH3, Heap.size_push]
  have old2 : Sub h2 h₁ := fun b o e => by
    have hlt := Heap.lt_size e
    exact hsb₁.extBut b o (Nat.ne_of_lt (by rw [hC]; exact Nat.lt_succ_of_lt hlt)) (Heap.get?_push_of_some _ (hH3 ▸ Heap.get?_push_of_some _ e))
  have eD : h₁.get? h2.objs.size = some { cls := .type "list", data := .seq ([] : List Value).toArray } :=
    hsb₁.extBut _ _ (Nat.ne_of_lt (by rw [hC]; exact Nat.lt_succ_self _)) (Heap.get?_push_of_some _ (hH3 ▸ Heap.get?_push_size _ rfl))
  have fresh : ∀ a, h.objs.size ≤ a → h.get? a = none := fun a ha => by
    cases e : h.get? a with
    | none => rfl
    | some o' => exact absurd (Heap.lt_size e) (Nat.not_lt.mpr ha)
  have hCn : h.get? H3.objs.size = none := fresh _ (by rw [hC]; omega)
  have hDn : h.get? h2.objs.size = none := fresh _ hsz2
  have zn : ∀ {a}, h.get? a = none → Z.get? a = none := fun e => none_of_sub hz e
  have hI2lt := Heap.lt_size hI2
  have a0 : At h Z Z H3.objs.size [(h2.objs.size, { cls := .type "list", data := .seq ([] : List Value).toArray }), (I, oI)] h₁ (fun x => ([] : List (Str × Value)).reverse.lookup x) := by
    refine ⟨hns₁, fun b o e => old2 b o (hs2 b o e), by rw [hC]; omega, fun b o e => old2 b o (hs2 b o (hz b o e)), zn hCn, Sub.refl Z, fun _ _ _ e => e, fun p hp => ?_, ?_⟩
    · rcases List.mem_cons.mp hp with rfl | hp
      · exact ⟨eD, Nat.ne_of_lt (by rw [hC]; exact Nat.lt_succ_self _), hDn, zn hDn⟩
      · rw [List.mem_singleton.mp hp]
        exact ⟨old2 _ _ hI2, Nat.ne_of_lt (by rw [hC]; exact Nat.lt_succ_of_lt hI2lt), hIn, zn hIn⟩
    · show [h2.objs.size, I].Nodup
      simp only [List.nodup_cons, List.mem_singleton, List.not_mem_nil, not_false_eq_true, List.nodup_nil, and_true]
      exact Nat.ne_of_gt hI2lt
  generalize H3.objs.size = C at a0 hCn ⊢
  generalize hDa : h2.objs.size = Da at a0 ⊢
  have si1 : SI 0 h₁ := W.frame _ _ _ si fun b _ o e => old2 b o e
  have loop : ∀ tk3, codeAny (model prog w) A (.compLoop (.ListComp elt [⟨.Name x px, iter, ifs, 0⟩] scope pos) 0 (.ref I) (.ref Da) (compEnvC scope cl C env)) (RR (.ref Da) C) (St r h₁ tk3) := by
    intro tk3
    refine codeAny_compLoop_tests (fun k s' => ∃ Z' h' m' tk' i us nn oI', s' = St r h' tk' ∧ Sub Z Z' ∧ At h Z Z' C [(Da, { cls := .type "list", data := .seq us.toArray nn }), (I, oI')] h' m' ∧ SI i h' ∧ RdAll Z' us ((List.range i).filterMap D) ∧ us.length ≤ i ∧ i ≤ n ∧ k = n + 1 - i) ?_ (n + 1)
      ⟨Z, h₁, _, tk3, 0, [], 0, oI, rfl, Sub.refl Z, a0, si1, .nil, Nat.le_refl _, Nat.zero_le _, rfl⟩
    rintro k s' ⟨Z', h', m', tk', i, us, nn, oI', rfl, hz', a', si', ru, hul, hin, rfl⟩
    by_cases hlt : i < n
    · refine W.item i _ _ _ hlt si' fun v h4 tk4 hP si4 hk4 => ?_
      obtain ⟨o4, ho4⟩ := live _ _ si4
      have a4 : At h Z Z' C [(Da, { cls := .type "list", data := .seq us.toArray nn }), (I, o4)] h4 m' :=
        a'.midBut (Ms := [(Da, _)]) (T := []) (fun b y hb e => hk4 b y (fun hm => hb (List.mem_singleton.mp hm)) e) ho4
      refine wpAny_assign_Name (sto (r := r) (tk := tk4) (env := compEnvC scope cl C env) a4 (fun h5 a5 => ?_) hkind (lookup_relabel_local hx))
      have fin : ∀ {h6 Z6 m6 us6 nn6}, Sub Z' Z6 → At h Z Z6 C [(Da, { cls := .type "list", data := .seq us6 nn6 }), (I, o4)] h6 m6 → SI (i + 1) h6 := by
        intro h6 Z6 m6 us6 nn6 hz6 a6
        refine W.frame _ _ _ si4 fun b hb y e => ?_
        rcases hfp b hb with rfl | ⟨y', hy'⟩
        · rw [ho4] at e; cases e; exact (a6.ms (b, _) (.tail _ (.head _))).1
        · have e1 := a'.z b y' (hz' b y' hy')
          have hbI : b ≠ I := by
            rintro rfl
            have := (a'.ms (b, oI') (.tail _ (.head _))).2.2.2
            rw [hz' b y' hy'] at this; cases this
          have e2 := hk4 b y' (fun hm => hbI (List.mem_singleton.mp hm)) e1
          rw [e2] at e; cases e
          exact a6.z b _ (hz6 b _ (hz' b _ hy'))
      refine wpAny_mono (turn i v C Z' _ h5 _ (tk4 + 1) hlt hP hz' a5 up_self) (fun ok s₃ q => ?_) fun _ _ q => q.elim
      obtain ⟨hok, tk5, rfl, helt⟩ := q
      cases hD : D i with
      | none =>
        rw [hD] at hok
        subst hok
        rw [if_neg (by decide)]
        exact ⟨n + 1 - (i + 1), by omega, Z', h5, _, tk5, i + 1, us, nn, o4, rfl, hz', a5, fin (Sub.refl _) a5, by rw [filterMap_range_succ, hD]; simpa using ru, by omega, hlt, rfl⟩
      | some d =>
        rw [hD] at hok
        subst hok
        rw [if_pos (show (some d).isSome = true from rfl)]
        refine wpAny_mono (helt d hD) (fun y s₄ q => ?_) fun _ _ q => q.elim
        obtain ⟨h6, Z6, tk6, m6, rfl, gz0, a6, ry⟩ := q
        refine appM (r := r) (tk := tk6) a6 (fun h7 a7 => ?_) (by rw [sizeLine_eq]; simp only [List.size_toArray]; omega)
        have e : us.toArray.push y = (us ++ [y]).toArray := by simp
        rw [e] at a7
        refine ⟨n + 1 - (i + 1), by omega, Z6, h7, _, tk6, i + 1, us ++ [y], nn + 1, o4, rfl, fun b o e => gz0 b o (hz' b o e), a7, fin gz0 a7, ?_, by simp; omega, hlt, rfl⟩
        rw [filterMap_range_succ, hD]
        exact (ru.mono gz0).append (.one ry)
    · have e : i = n := by omega
      subst e
      refine W.done _ _ _ si' fun h4 tk4 hk4 => ?_
      have a4 := a'.swap.endBut fun b y hb e => hk4 b y (fun hm => hb (List.mem_singleton.mp hm)) e
      obtain ⟨Z5, hs5, a5, e5⟩ := a4.freezeHead
      exact done _ C h4 Z5 _ tk4 a5.grown (Rd.list e5 (ru.mono hs5)) hCn a5.zL a5.ns
  exact codeAny_compStart_list (loop _) (W.self 0 _ _ _ si1 (loop _))

/-- a list comprehension as a value -/
theorem compE {elt iter : Expr} {x : Str} {px : Pos} {ifs : List Expr} {scope : Scope} {cl : List (Str × Addr)} {pos : Pos} {n : Nat} {P : Nat → Value → Prop} {Q : Value → Shared → Prop} (hz : Sub Z h) (hn : n ≤ 1000) (hclos : closureFor scope env = pure cl)
    (D : Nat → Option PyData)
    (hit : wpAny (model prog w) A (eval iter env) (fun xv s₁ => wpAny (model prog w) A (pyIter xv) (ItOn prog w A r Z h n P) E s₁) E (St r h tk))
    (turn : ∀ i v C Z' T' h' m' tk', i < n → P i v → Sub Z Z' → At h Z Z' C T' h' m' → m' x = some v →
      wpAny (model prog w) A (forIn ifs true fun c r => if r = true then do let ok ← isTrue c (compEnvC scope cl C env) (eval c (compEnvC scope cl C env)); pure (ForInStep.yield ok) else pure (ForInStep.yield r))
        (fun ok s₃ => ok = (D i).isSome ∧ ∃ tk3, s₃ = St r h' tk3 ∧ ∀ d, D i = some d →
          wpAny (model prog w) A (eval elt (compEnvC scope cl C env)) (fun y s₄ => ∃ h4 Z4 tk4 m4, s₄ = St r h4 tk4 ∧ Sub Z' Z4 ∧ At h Z Z4 C T' h4 m4 ∧ Rd Z4 y d) (fun _ _ => False) s₃) (fun _ _ => False) (St r h' tk'))
    (q : ∀ acc h' Z' tk', Grown h Z h' Z' → Rd Z' acc (.list ((List.range n).filterMap D)) → Q acc (St r h' tk'))
    (hcell : ∀ y ∈ scope.names, y.2 ≠ .cell := by decide) (hnames : ∀ y ∈ scope.names, y.2 = .local → scope.names.lookup y.1 = some .local := by decide) (hkind : scope.kind = .function := by rfl) (hx : scope.names.lookup x = some .local := by rfl)
    (hs : ∀ x, foldedSetIterable iter env x = pure x := by intro _; rfl) :
    wpAny (model prog w) A (eval (.ListComp elt [⟨.Name x px, iter, ifs, 0⟩] scope pos) env) Q E (St r h tk) := by
  rw [eval_ListComp]
  refine wpAny_comprehension_free (use := none) rfl hs hclos hkind hnames (wpAny_mono hit (fun xv s₁ h₁ => wpAny_mono h₁ (fun it s₂ h₂ => ?_) fun _ _ e => e) fun _ _ e => e)
  refine comp_block (RR := fun acc C => compPost (model prog w) A E none Q acc C) h₂ hz hn hcell hkind hx D turn fun acc C h' Z' m' tk' gr rd hC hC' ns => ?_
  refine ⟨m', ns, fun h'' hs'' => q acc h'' Z' tk' ⟨fun b o e => (hs''.2 b ?_).trans (gr.keep b o e), gr.z0, fun b o e => (hs''.2 b ?_).trans (gr.z b o e), gr.new⟩ rd⟩
  · rintro rfl; rw [hC] at e; cases e
  · rintro rfl; rw [hC'] at e; cases e

/-- a list comprehension stored in a local -/
theorem compA {elt iter : Expr} {x y : Str} {px py : Pos} {ifs : List Expr} {scope : Scope} {cl : List (Str × Addr)} {pos spos : Pos} {n : Nat} {P : Nat → Value → Prop} {Q : Flow → Shared → Prop} (a : At h₀ Z₀ Z env.locals Ms h m) (hn : n ≤ 1000) (hclos : closureFor scope env = pure cl)
    (D : Nat → Option PyData)
    (hit : wpAny (model prog w) A (eval iter env) (fun xv s₁ => wpAny (model prog w) A (pyIter xv) (ItOn prog w A r Z h n P) E s₁) E (St r h tk))
    (turn : ∀ i v C Z' T' h' m' tk', i < n → P i v → Sub Z Z' → At h Z Z' C T' h' m' → m' x = some v →
      wpAny (model prog w) A (forIn ifs true fun c r => if r = true then do let ok ← isTrue c (compEnvC scope cl C env) (eval c (compEnvC scope cl C env)); pure (ForInStep.yield ok) else pure (ForInStep.yield r))
        (fun ok s₃ => ok = (D i).isSome ∧ ∃ tk3, s₃ = St r h' tk3 ∧ ∀ d, D i = some d →
          wpAny (model prog w) A (eval elt (compEnvC scope cl C env)) (fun y s₄ => ∃ h4 Z4 tk4 m4, s₄ = St r h4 tk4 ∧ Sub Z' Z4 ∧ At h Z Z4 C T' h4 m4 ∧ Rd Z4 y d) (fun _ _ => False) s₃) (fun _ _ => False) (St r h' tk'))
    (q : ∀ acc h' Z' tk', Sub Z Z' → At h₀ Z₀ Z' env.locals Ms h' (up m y acc) → Rd Z' acc (.list ((List.range n).filterMap D)) → Q .next (St r h' tk'))
    (hsw : swapsWith (.ListComp elt [⟨.Name x px, iter, ifs, 0⟩] scope pos) (some (.Name y py)) spos.line env = pure true := by rfl)
    (hcell : ∀ y ∈ scope.names, y.2 ≠ .cell := by decide) (hnames : ∀ y ∈ scope.names, y.2 = .local → scope.names.lookup y.1 = some .local := by decide) (hkind : scope.kind = .function := by rfl) (hx : scope.names.lookup x = some .local := by rfl)
    (hek : env.scope.kind = .function := by rfl) (hy : env.kindOf y = some .local := by rfl)
    (hs : ∀ x, foldedSetIterable iter env x = pure x := by intro _; rfl) :
    wpAny (model prog w) A (exec (.Assign [.Name y py] (.ListComp elt [⟨.Name x px, iter, ifs, 0⟩] scope pos) spos) env) Q E (St r h tk) := by
  rw [exec_Assign_Name_used _ _ _ _ hsw]
  refine wpAny_bind (wpAny_standAt (wpAny_bind ?_))
  show wpAny _ A (do let _ ← comprehension (.ListComp elt [⟨.Name x px, iter, ifs, 0⟩] scope pos) scope env _ (newList []) false (eval iter env) (some (assign (.Name y py) env))) _ _ (St r h tk)
  refine wpAny_bind (wpAny_mono (wpAny_comprehension_free (use := some (assign (.Name y py) env)) (Q := fun _ s' => Q .next s') rfl hs hclos hkind hnames
    (wpAny_mono hit (fun xv s₁ h₁ => wpAny_mono h₁ (fun it s₂ h₂ => ?_) fun _ _ e => e) fun _ _ e => e)) (fun _ s' hq => wpAny_pure (wpAny_pure hq)) fun _ _ e => e)
  refine comp_block (RR := fun acc C => compPost (model prog w) A E (some (assign (.Name y py) env)) (fun _ s' => Q .next s') acc C) h₂ a.z hn hcell hkind hx D turn fun acc C h' Z' m' tk' gr rd hC hC' ns => ?_
  show wpAny _ A (assign (.Name y py) env acc) _ _ _
  obtain ⟨n1, n2, n3, n4⟩ := At.dead hC a
  refine wpAny_assign_Name (wpAny_storeName_local hy (a.call gr).ns (fun h3 hn3 hs3 => ?_) (by rw [hek]; rfl))
  have a3 := (a.call gr).store hn3 hs3
  refine ⟨m', ns.sameBut hs3 n1, fun h4 hs4 => ?_⟩
  exact q acc h4 Z' (tk' + 1) gr.z0 (a3.other hs4 n1 n2 hC' n4) rd

/-! cells -/
theorem ldCell {x : Str} {pos : Pos} {c : Addr} {v : Value} {Q : Value → Shared → Prop} (hc : env.cells.lookup x = some c) (hv : h.IsCell c (some v)) (k : Q v (St r h tk))
    (hk : env.scope.kind = .function := by rfl) (hl : env.kindOf x = some .cell := by rfl) (hd : (x == ("__debug__" : Str)) = false := by decide) :
    wpAny (model prog w) A (eval (.Name x pos) env) Q E (St r h tk) := wpAny_Name (wpAny_loadName_cell hk hl hc hv k) hd
theorem stCell {x : Str} {c : Addr} {o : Obj} {v₀ : Option Value} {v : Value} {Q : Unit → Shared → Prop} (a : At h₀ Z₀ Z L ((c, o) :: Ms) h m) (hc : env.cells.lookup x = some c) (ho : o.data = .cell v₀)
    (k : ∀ h' o', o'.data = .cell (some v) → At h₀ Z₀ Z L ((c, o') :: Ms) h' m → Q () (St r h' tk))
    (hk : env.scope.kind = .function := by rfl) (hl : env.kindOf x = some .cell := by rfl) :
    wpAny (model prog w) A (storeName env x v) Q E (St r h tk) :=
  wpAny_storeName_cell (s := St r h tk) hk hl hc ⟨o, a.head, ho⟩ fun h' hv hs => let ⟨o', ho', hd'⟩ := hv; k h' o' hd' (a.upd hs ho')

theorem callC {f : Addr} {name : Str} {params : Arguments} {body : List Stmt} {scope : Scope} {vs : List Value} {binds : List (Str × Value)} {Q : Value → Shared → Prop}
    (fn : FnAt h f name params body scope) (hlim : h.NoLimit) (hroom : A.depth < recursionLimit)
    (hbind : ∀ pm cd doc ct an, bindArgs (fnD name params body scope pm cd doc ct an) ⟨vs, []⟩ = pure binds)
    (hkind : ∀ x ∈ binds, scope.names.lookup x.1 = some .local ∨ (scope.names.lookup x.1 = some .cell ∧ ((cellsFrom (h.objs.size + 1) scope.names []).lookup x.1).isSome = true))
    (k : ∀ cd h₁ tk₁, h₁.Ns h.objs.size (bindL (envOfC name scope h.objs.size f cd).kindOf binds fun _ => none) → Sub h h₁ →
      Cl h.objs.size (cellsFrom (h.objs.size + 1) scope.names []) h₁ (bindC (envOfC name scope h.objs.size f cd).kindOf binds fun _ => none) →
      wpAny (model prog w) (A.deeper (envOfC name scope h.objs.size f cd)) (execs body (envOfC name scope h.objs.size f cd)) (fun fl s' => Q (match fl with | .ret v => v | _ => .none) s') (fun _ _ => False) (St r h₁ tk₁))
    (hco : scope.isCoroutine = false := by rfl) (hgen : scope.isGenerator = false := by rfl) (hk : scope.kind = .function := by rfl) :
    wpAny (model prog w) A (call (.ref f) vs) Q E (St r h tk) := by
  obtain ⟨o, pm, cd, doc, ct, an, e, d, c⟩ := fn
  refine wpAny_call (codeAny_call_cells (s := St r h tk) (fd := fnD name params body scope pm cd doc ct an) hroom e d hlim c rfl (hbind pm cd doc ct an) rfl hkind (fun s₁ X => ?_) hco hgen hk)
  obtain ⟨h₁, tk₁, rfl, _⟩ := X.done
  exact wpAny_mono (k cd h₁ tk₁ X.toInCall.ns X.toInCall.keep ⟨X.cell, X.apart, X.above⟩) (fun fl s' q => q) fun _ _ x => x.elim

/-! new frozen objects -/
theorem tupF {vs : List Value} {ds : List PyData} {Q : Value → Shared → Prop} (a : At h₀ Z₀ Z L Ms h m) (rd : RdAll Z vs ds) (q : ∀ l h' Z', Sub Z Z' → At h₀ Z₀ Z' L Ms h' m → Rd Z' (.ref l) (.tuple ds) → Q (.ref l) (St r h' tk)) (hsz : vs.length ≤ sizeLine := by size_fits) :
    wpAny (model prog w) A (newTuple vs) Q E (St r h tk) := by
  refine newT (r := r) ?_ hsz
  obtain ⟨Z4, hs4, a4, e4⟩ := a.frozen { cls := .type "tuple", data := .seq vs.toArray } rfl
  exact q _ _ Z4 hs4 a4 (Rd.tuple e4 (rd.mono hs4))
theorem lstF {vs : List Value} {ds : List PyData} {Q : Value → Shared → Prop} (a : At h₀ Z₀ Z L Ms h m) (rd : RdAll Z vs ds) (q : ∀ l h' Z', Sub Z Z' → At h₀ Z₀ Z' L Ms h' m → Rd Z' (.ref l) (.list ds) → Q (.ref l) (St r h' tk)) (hsz : vs.length ≤ sizeLine := by size_fits) :
    wpAny (model prog w) A (newList vs) Q E (St r h tk) := by
  refine newL (r := r) ?_ hsz
  obtain ⟨Z4, hs4, a4, e4⟩ := a.frozen { cls := .type "list", data := .seq vs.toArray } rfl
  exact q _ _ Z4 hs4 a4 (Rd.list e4 (rd.mono hs4))
theorem addF {v u : Value} {ds es : List PyData} {Q : Value → Shared → Prop} (a : At h₀ Z₀ Z L Ms h m) (rv : Rd Z v (.list ds)) (ru : Rd Z u (.list es)) (hsz : ds.length + es.length ≤ 1000)
    (q : ∀ l h' Z', Sub Z Z' → At h₀ Z₀ Z' L Ms h' m → Rd Z' (.ref l) (.list (ds ++ es)) → Q (.ref l) (St r h' tk)) :
    wpAny (model prog w) A (binaryOp .Add v u) Q E (St r h tk) := by
  obtain ⟨l1, us1, rfl, il1, ru1⟩ := rv.unlist
  obtain ⟨l2, us2, rfl, il2, ru2⟩ := ru.unlist
  have e1 := ru1.length
  have e2 := ru2.length
  refine addL (r := r) (isList_mono a.z il1) (isList_mono a.z il2) ?_ (by rw [sizeLine_eq]; omega)
  obtain ⟨Z4, hs4, a4, e4⟩ := a.frozen { cls := .type "list", data := .seq (us1 ++ us2).toArray } rfl
  exact q _ _ Z4 hs4 a4 (Rd.list e4 ((ru1.append ru2).mono hs4))

theorem At.adopt {h2 : Heap} {I : Addr} {oI : Obj} (a : At h₀ Z₀ Z L Ms h m) (hs : Sub h h2) (hI : h.get? I = none) (hI2 : h2.get? I = some oI) : At h₀ Z₀ Z L ((I, oI) :: Ms) h2 m := by
  obtain ⟨n1, n2, n3, n4⟩ := At.dead hI a
  have b := a.ext hs
  refine ⟨b.ns, b.keep, b.above, b.z, b.zL, b.z0, b.new, fun p hp => ?_, ?_⟩
  · rcases List.mem_cons.mp hp with rfl | hp
    · exact ⟨hI2, n1, n2, n3⟩
    · exact b.ms p hp
  · rw [List.map_cons, List.nodup_cons]
    refine ⟨fun q => ?_, b.nd⟩
    obtain ⟨p, hp, e⟩ := List.mem_map.mp q
    exact n4 p hp e

/-- for over an iterator that stands ready -/
theorem for_it {x : Str} {px : Pos} {body : List Stmt} {n : Nat} {P : Nat → Value → Prop} {it : Value} {s₂ : Shared} {Q : Flow → Shared → Prop}
    (J : Nat → Heap → List (Addr × Obj) → (Str → Option Value) → Prop) (a : At h₀ Z₀ Z env.locals (Ms ++ T) h m) (j0 : J 0 Z Ms m) (ready : ItOn prog w A r Z h n P it s₂)
    (turn : ∀ i v Z' Ms' T' h' m' tk', i < n → P i v → Sub Z Z' → J i Z' Ms' m' → At h₀ Z₀ Z' env.locals (Ms' ++ T') h' (up m' x v) →
      wpAny (model prog w) A (execs body env) (TurnEnd r h₀ Z₀ Z' env.locals T' (J (i + 1)) Q) (fun _ _ => False) (St r h' tk'))
    (done : ∀ Z' Ms' h' m' tk', Sub Z Z' → J n Z' Ms' m' → At h₀ Z₀ Z' env.locals (Ms' ++ T) h' m' → Q .next (St r h' tk'))
    (hk : env.scope.kind = .function := by rfl) (hl : env.kindOf x = some .local := by rfl) :
    codeAny (model prog w) A (.forLoop (.Name x px) it body [] env) (fun r s' => match r with | .ok f => Q f s' | .error e => cameBackBy (model prog w) A env E e s') s₂ := by
  obtain ⟨I, oI, fp, SI, h2, tk2, rfl, rfl, W, live, hs2, hsz2, hIn, hI2, si, hfp⟩ := ready
  exact for_walk (Q := Q) W live J ((a.adopt hs2 hIn hI2).perm List.perm_middle.symm) si hfp j0 turn done (fun f s' q => q) hk hl

/-! a list that changes -/
def IsLO (o : Obj) (us : List Value) : Prop := o.cls = .type "list" ∧ ∃ n, o.data = .seq us.toArray n
theorem IsLO.at {D : Addr} {o : Obj} {us : List Value} (x : IsLO o us) (e : h.get? D = some o) : h.IsList D us.toArray := ⟨o, e, x.1, x.2⟩
theorem IsLO.rd {D : Addr} {o : Obj} {us : List Value} {ds : List PyData} (x : IsLO o us) (e : Z.get? D = some o) (ru : RdAll Z us ds) : Rd Z (.ref D) (.list ds) := by
  obtain ⟨c, n, d⟩ := x
  obtain ⟨as, ru⟩ := ru
  exact ⟨_, .list e c d ru⟩
theorem setL {D : Addr} {o : Obj} {us : List Value} {k : Int} {u : Tok} {v : Value} {Q : Unit → Shared → Prop} (a : At h₀ Z₀ Z L ((D, o) :: Ms) h m) (x : IsLO o us) (h0 : 0 ≤ k) (hn : k < us.length) (hfit : us.length ≤ 1000)
    (q : ∀ o' h', IsLO o' (us.set k.toNat v) → At h₀ Z₀ Z L ((D, o') :: Ms) h' m → Q () (St r h' tk)) :
    wpAny (model prog w) A (setItem (.ref D) (.int k u) v) Q E (St r h tk) := by
  refine wpAny_setItem_list (s := St r h tk) (x.at a.head) h0 (by omega) (by simpa using hn) fun h' hl hs => ?_
  obtain ⟨o', e', c', n', d'⟩ := hl
  refine q o' h' ⟨c', n', ?_⟩ (a.upd hs e')
  rw [d']; congr 1; simp
theorem RdAll.set {v : Value} {d : PyData} (rv : Rd Z v d) : ∀ {us : List Value} {ds : List PyData}, RdAll Z us ds → ∀ i, RdAll Z (us.set i v) (ds.set i d)
  | _, [], ru, i => by rw [ru.unnil]; simpa using RdAll.nil
  | _, d' :: ds, ru, 0 => by obtain ⟨u, r, rfl, a, b⟩ := ru.uncons; exact .cons rv b
  | _, d' :: ds, ru, i + 1 => by obtain ⟨u, r, rfl, a, b⟩ := ru.uncons; exact .cons a (RdAll.set rv b i)
end
end Mine

namespace Mine
open PySem PyProof.Rows PySem.Calls
set_option maxRecDepth 100000

local macro_rules | `(tactic| walk_at "lk") => `(tactic| first | assumption | exact up_self | (refine up_ne (by decide) ?_; walk_at "lk"))

theorem filterMap_some {α : Type} (l : List α) (f : α → PyData) : (List.range l.length).filterMap (fun i => (l[i]?).map f) = l.map f := by
  induction l with
  | nil => rfl
  | cons a l ih =>
    rw [List.length_cons, List.range_succ_eq_map, List.filterMap_cons]
    simp only [List.getElem?_cons_zero, Option.map_some, List.filterMap_map, List.map_cons]
    congr 1
theorem At.startC {h₀ Z : Heap} {h₁ : Heap} {m : Str → Option Value} (hz : Sub Z h₀) (hn : h₁.Ns h₀.objs.size m) (hk : Sub h₀ h₁) {Ms : List (Addr × Obj)} (hm : ∀ p ∈ Ms, h₁.get? p.1 = some p.2 ∧ h₀.objs.size < p.1) (nd : (Ms.map (·.1)).Nodup) : At h₀ Z Z h₀.objs.size Ms h₁ m := by
  have a := At.start hz hn hk
  have fresh : ∀ {a : Addr}, h₀.objs.size ≤ a → h₀.get? a = none := fun {a} ha => by
    cases e : h₀.get? a with
    | none => rfl
    | some o' => exact absurd (Heap.lt_size e) (Nat.not_lt.mpr ha)
  refine ⟨a.ns, a.keep, a.above, a.z, a.zL, a.z0, a.new, fun p hp => ?_, nd⟩
  obtain ⟨e, l⟩ := hm p hp
  have n := fresh (Nat.le_of_lt l)
  exact ⟨e, Nat.ne_of_gt l, n, none_of_sub hz n⟩

section
variable {prog : Program} {w : World} {A : Around} {E : Value → Shared → Prop} {Z h : Heap} {r : Shared} {tk : Nat} {mg mb : Str → Option Value}

theorem ifs_nil {env : Env} {Q : Bool → Shared → Prop} {s : Shared} (k : Q true s) : wpAny (model prog w) A (forIn ([] : List Expr) true fun c r => if r = true then do let ok ← isTrue c env (eval c env); pure (ForInStep.yield ok) else pure (ForInStep.yield r)) Q E s := wpAny_pure k

theorem turn_plain {env : Env} {elt : Expr} {h' : Heap} {tk' : Nat} {Di : Option PyData} {d0 : PyData} {Ok : Value → PyData → Shared → Prop} (hD : Di = some d0) (k : wpAny (model prog w) A (eval elt env) (fun y s₄ => Ok y d0 s₄) (fun _ _ => False) (St r h' tk')) :
    wpAny (model prog w) A (forIn ([] : List Expr) true fun c r => if r = true then do let ok ← isTrue c env (eval c env); pure (ForInStep.yield ok) else pure (ForInStep.yield r))
      (fun ok s₃ => ok = Di.isSome ∧ ∃ tk3, s₃ = St r h' tk3 ∧ ∀ d, Di = some d → wpAny (model prog w) A (eval elt env) (fun y s₄ => Ok y d s₄) (fun _ _ => False) s₃) E (St r h' tk') := by
  subst hD
  exact ifs_nil ⟨rfl, tk', rfl, fun d he => by cases he; exact k⟩

def itemsP (ms : List Str) (ls : List Int) : List (Str × Int) := ls.map (fun v => (("var" : Str), v)) ++ ms.map fun m => (m, (0 : Int))

set_option maxHeartbeats 4000000 in
theorem type_spec {f : Addr} {vsh vmk vlv : Value} {sh : List Nat} {ms : List Str} {ls : List Int} {T : Ty} {Q : Value → Shared → Prop} (g : Gl mg mb h) (fn : FnAt h f (nameF 13) (paramsF 13) (bodyF 13) (scopeF 13)) (am : Amb A 1 3)
    (hz : Sub Z h) (hsh : Rd Z vsh (.tuple (sh.map fun (p : Nat) => PyData.int (p : Int)))) (hmk : Rd Z vmk (.list (ms.map .str))) (hlv : Rd Z vlv (intsD ls)) (hl1 : sh.length ≤ 100) (hl2 : ms.length ≤ 100) (hl3 : ls.length ≤ 100)
    (hT : sh.map (fun p => (itemsP ms ls)[p]?) = T.enc.map some)
    (k : ∀ v h' Z' tk', Grown h Z h' Z' → Rd Z' v (tyD T) → Q v (St r h' tk')) :
    wpAny (model prog w) A (call (.ref f) [vsh, vmk, vlv]) Q E (St r h tk) := by
  refine callC (binds := [("shape", vsh), ("makers", vmk), ("leaves", vlv)]) fn g.nolimit am.room (fun _ _ _ _ _ => rfl) (by
    intro x hx
    rcases List.mem_cons.mp hx with rfl | hx
    · exact .inl rfl
    rcases List.mem_cons.mp hx with rfl | hx
    · exact .inl rfl
    rw [List.mem_singleton.mp hx]; exact .inl rfl) (fun cd h₁ tk₁ ns kp cl => ?_)
  obtain ⟨oc, hoc, hod⟩ := cl.cell "items" (h.objs.size + 1) rfl
  have hm1 : bindC (envOfC (nameF 13) (scopeF 13) h.objs.size f cd).kindOf [(Str.ofString "shape", vsh), (Str.ofString "makers", vmk), (Str.ofString "leaves", vlv)] (fun _ => none) "items" = none := rfl
  rw [hm1] at hod
  have m1 : bindL (envOfC (nameF 13) (scopeF 13) h.objs.size f cd).kindOf [(Str.ofString "shape", vsh), (Str.ofString "makers", vmk), (Str.ofString "leaves", vlv)] (fun _ => none) "shape" = some vsh := rfl
  have m2 : bindL (envOfC (nameF 13) (scopeF 13) h.objs.size f cd).kindOf [(Str.ofString "shape", vsh), (Str.ofString "makers", vmk), (Str.ofString "leaves", vlv)] (fun _ => none) "makers" = some vmk := rfl
  have m3 : bindL (envOfC (nameF 13) (scopeF 13) h.objs.size f cd).kindOf [(Str.ofString "shape", vsh), (Str.ofString "makers", vmk), (Str.ofString "leaves", vlv)] (fun _ => none) "leaves" = some vlv := rfl
  have a : At h Z Z h.objs.size [(h.objs.size + 1, oc)] h₁ _ := At.startC hz ns kp (Ms := [(h.objs.size + 1, oc)]) (fun p hp => by rw [List.mem_singleton.mp hp]; exact ⟨hoc, Nat.lt_succ_self _⟩) (by simp)
  clear ns
  generalize bindL (envOfC (nameF 13) (scopeF 13) h.objs.size f cd).kindOf [(Str.ofString "shape", vsh), (Str.ofString "makers", vmk), (Str.ofString "leaves", vlv)] (fun _ => none) = m at a m1 m2 m3
  have am1 : Amb (A.deeper (envOfC (nameF 13) (scopeF 13) h.objs.size f cd)) 0 0 := am.deeper _
  -- the leaves
  refine wpAny_execs_cons (asg (wpAny_BinOp (compE (r := r) (n := ls.length) (P := OfL Z (ls.map .int)) a.z (by omega) (by rfl) (fun i => (ls[i]?).map fun v => itD ("var", v)) (nm a (v := vlv) m3 ?_) ?_ ?_)))
  · have := it_list (prog := prog) (w := w) (E := fun _ _ => False) (r := r) (tk := tk₁) am1.hh a.z (Sub.refl _) (Nat.le_refl _) hlv
    rw [List.length_map] at this
    exact this
  · rintro i v C Z' T' h' m' tk' hi ⟨d, hd, rd⟩ hz' a' mx
    rw [List.getElem?_map, List.getElem?_eq_getElem hi] at hd
    simp only [Option.map_some, Option.some.injEq] at hd
    subst hd
    refine turn_plain (d0 := itD ("var", ls[i])) (Ok := fun y d s₄ => ∃ h4 Z4 tk4 m4, s₄ = St r h4 tk4 ∧ Sub Z' Z4 ∧ At _ _ Z4 C T' h4 m4 ∧ Rd Z4 y d) (by rw [List.getElem?_eq_getElem hi]; rfl) ?_
    refine Tuple_ (args_cons (cstr (args_cons (nm a' (v := v) mx (args_nil (newT (r := r) ?_))))))
    obtain ⟨Z4, hs4, a4, e4⟩ := a'.frozen { cls := .type "tuple", data := .seq [Value.str "var" tk', v].toArray } rfl
    exact ⟨_, Z4, _, _, rfl, hs4, a4, Rd.tuple e4 (.cons (.str _ _) (.cons ((rd.mono hz').mono hs4) .nil))⟩
  rw [filterMap_some]
  intro v1 h2 Z2 tk2 gr2 rv1
  have a2 := a.call gr2
  -- the makers
  refine compE (r := r) (n := ms.length) (P := OfL Z2 (ms.map .str)) a2.z (by omega) (by rfl) (fun i => (ms[i]?).map fun v => itD (v, 0)) (nm a2 (v := vmk) m2 ?_) ?_ ?_
  · have := it_list (prog := prog) (w := w) (E := fun _ _ => False) (r := r) (tk := tk2) am1.hh a2.z (Sub.refl _) (Nat.le_refl _) (hmk.mono gr2.z0)
    rw [List.length_map] at this
    exact this
  · rintro i v C Z' T' h' m' tk' hi ⟨d, hd, rd⟩ hz' a' mx
    rw [List.getElem?_map, List.getElem?_eq_getElem hi] at hd
    simp only [Option.map_some, Option.some.injEq] at hd
    subst hd
    refine turn_plain (d0 := (itD (ms[i], 0))) (Ok := fun y d s₄ => ∃ h4 Z4 tk4 m4, s₄ = St r h4 tk4 ∧ Sub Z' Z4 ∧ At _ _ Z4 C T' h4 m4 ∧ Rd Z4 y d) (by rw [List.getElem?_eq_getElem hi]; rfl) ?_
    refine Tuple_ (args_cons (nm a' (v := v) mx (args_cons (cint (args_nil (newT (r := r) ?_))))))
    obtain ⟨Z4, hs4, a4, e4⟩ := a'.frozen { cls := .type "tuple", data := .seq [v, Value.int 0 tk'].toArray } rfl
    exact ⟨_, Z4, _, _, rfl, hs4, a4, Rd.tuple e4 (.cons ((rd.mono hz').mono hs4) (.cons (.int _ _) .nil))⟩
  rw [filterMap_some]
  intro v2 h3 Z3 tk3 gr3 rv2
  have a3 := a2.call gr3
  obtain ⟨l1, us1, rfl, il1, ru1⟩ := (rv1.mono gr3.z0).unlist
  obtain ⟨l2, us2, rfl, il2, ru2⟩ := rv2.unlist
  have hlen1 : us1.length = ls.length := by have := ru1.length; rwa [List.length_map] at this
  have hlen2 : us2.length = ms.length := by have := ru2.length; rwa [List.length_map] at this
  refine addL (r := r) (isList_mono a3.z il1) (isList_mono a3.z il2) ?_ (by rw [sizeLine_eq]; omega)
  obtain ⟨Z4, hs4, a4, e4⟩ := a3.frozen { cls := .type "list", data := .seq (us1 ++ us2).toArray } rfl
  have rit : Rd Z4 (.ref h3.objs.size) (lD (itemsP ms ls)) := by
    refine Rd.list e4 ?_
    have := (ru1.append ru2).mono hs4
    have e : (itemsP ms ls).map itD = (ls.map fun v => itD ("var", v)) ++ ms.map fun v => itD (v, 0) := by
      unfold itemsP; rw [List.map_append, List.map_map, List.map_map]; rfl
    rw [e]; exact this
  refine stCell (r := r) (env := envOfC (nameF 13) (scopeF 13) h.objs.size f cd) a4 (by rfl) hod fun h5 o5 ho5 a5 => ?_
  obtain ⟨Z6, hs6, a6, e6⟩ := a5.freezeHead
  have hcell : Z6.IsCell (h.objs.size + 1) (some (.ref h3.objs.size)) := ⟨o5, e6, ho5⟩
  have hsh6 := (((hsh.mono gr2.z0).mono gr3.z0).mono hs4).mono hs6
  -- the items by the shape
  refine wpAny_execs_cons (wpAny_Return_some (compE (r := r) (n := sh.length) (P := OfL Z6 (sh.map fun (p : Nat) => PyData.int (p : Int))) a6.z (by omega) (by rfl) (fun i => ((sh[i]?).bind fun p => (itemsP ms ls)[p]?).map itD) (nm a6 (v := vsh) m1 ?_) ?_ ?_))
  · have := it_tuple (prog := prog) (w := w) (E := fun _ _ => False) (r := r) (tk := tk3) am1.hh a6.z (Sub.refl _) (Nat.le_refl _) hsh6
    rw [List.length_map] at this
    exact this
  · rintro i v C Z' T' h' m' tk' hi ⟨d, hd, rd⟩ hz' a' mx
    rw [List.getElem?_map, List.getElem?_eq_getElem hi] at hd
    simp only [Option.map_some, Option.some.injEq] at hd
    subst hd
    obtain ⟨tp, rfl⟩ := rd.unint
    obtain ⟨it, hit⟩ : ∃ it, (itemsP ms ls)[sh[i]]? = some it := by
      have := congrArg (fun l => l[i]?) hT
      simp only [List.getElem?_map, List.getElem?_eq_getElem hi, Option.map_some] at this
      cases q : T.enc[i]? with
      | none => rw [q] at this; cases this
      | some x => rw [q] at this; exact ⟨x, Option.some.inj this⟩
    refine turn_plain (d0 := (itD it)) (Ok := fun y d s₄ => ∃ h4 Z4 tk4 m4, s₄ = St r h4 tk4 ∧ Sub Z' Z4 ∧ At _ _ Z4 C T' h4 m4 ∧ Rd Z4 y d) (by rw [List.getElem?_eq_getElem hi]; show ((itemsP ms ls)[sh[i]]?).map itD = _; rw [hit]; rfl) ?_
    have hpl : sh[i] < (itemsP ms ls).length := (List.getElem?_eq_some_iff.mp hit).1
    have hpl2 : (itemsP ms ls).length ≤ 200 := by unfold itemsP; rw [List.length_append, List.length_map, List.length_map]; omega
    refine Subscript_ (ldCell (c := h.objs.size + 1) (by rfl) ((hcell.keeps hz').keeps a'.z) (nm a' (v := .int (sh[i] : Int) tp) mx (itL (d := itD it) a'.z ((rit.mono hs6).mono hz') (by omega) (by omega) ?_ fun y ry => ?_)))
    · rw [Int.toNat_natCast, List.getElem?_map, hit]; rfl
    · exact ⟨h', Z', tk', _, rfl, Sub.refl _, a', ry⟩
  intro v3 h7 Z7 tk7 gr7 rv3
  refine k v3 h7 Z7 tk7 (a6.call gr7).grown ?_
  have e : (List.range sh.length).filterMap (fun i => ((sh[i]?).bind fun p => (itemsP ms ls)[p]?).map itD) = T.enc.map itD := by
    have hl : sh.length = T.enc.length := by have := congrArg List.length hT; simpa using this
    rw [hl, ← filterMap_some]
    congr 1
    funext i
    have := congrArg (fun l => l[i]?) hT
    simp only [List.getElem?_map] at this
    cases q1 : sh[i]? with
    | none => rw [q1] at this; cases q2 : T.enc[i]? with
      | none => rfl
      | some y => rw [q2] at this; cases this
    | some p => rw [q1] at this; cases q2 : T.enc[i]? with
      | none => rw [q2] at this; cases this
      | some y => rw [q2] at this; have this : (itemsP ms ls)[p]? = some y := Option.some.inj this; show ((itemsP ms ls)[p]?).map itD = _; rw [this]
  rw [e] at rv3
  exact rv3
end
end Mine

namespace Mine
open PySem PyProof.Rows PySem.Calls
set_option maxRecDepth 100000

local macro_rules | `(tactic| walk_at "lk") => `(tactic| first | assumption | exact up_self | (refine up_ne (by decide) ?_; walk_at "lk"))

def stepD (ns : List Int) (d : Dc) (i : Nat) : Dc := putT d (cellN ns (13 + 2 * i) 4) (.var (cellN ns (13 + 2 * i) 4 + 1 + cellN ns (14 + 2 * i) (4 - cellN ns (13 + 2 * i) 4)))
def startN (ns : List Int) : Nat → Dc
  | 0 => []
  | i + 1 => stepD ns (startN ns i) i
def startD (ns : List Int) : Dc := startN ns (cellN ns 12 3).toNat
theorem startN_len (ns : List Int) : ∀ i, (startN ns i).length ≤ i
  | 0 => Nat.le_refl _
  | i + 1 => by
    have := startN_len ns i
    show (putT _ _ _).length ≤ _
    unfold putT; split <;> simp <;> omega
theorem startN_up (ns : List Int) : ∀ i, Up (startN ns i)
  | 0 => Up.nil
  | i + 1 => by
    obtain ⟨h1, h2⟩ := cellN_range ns (13 + 2 * i) (k := 4) (by decide)
    obtain ⟨h3, h4⟩ := cellN_range ns (14 + 2 * i) (k := 4 - cellN ns (13 + 2 * i) 4) (by omega)
    exact (startN_up ns i).put h1 (by omega) (by omega)
theorem startD_up (ns : List Int) : Up (startD ns) := startN_up ns _

section
variable {prog : Program} {w : World} {A : Around} {E : Value → Shared → Prop} {Z h : Heap} {r : Shared} {tk : Nat} {mg mb : Str → Option Value}

set_option maxHeartbeats 4000000 in
theorem start_spec {f : Addr} {vs : Value} {ns : List Int} {Q : Value → Shared → Prop} (g : Gl mg mb h) (fn : FnAt h f (nameF 14) (paramsF 14) (bodyF 14) (scopeF 14)) (am : Amb A 2 6)
    (hz : Sub Z h) (hs : Rd Z vs (intsD ns)) (hlen : ns.length ≤ 63)
    (k : ∀ v h' Z' tk', Grown h Z h' Z' → RdD prog w Z' Z' v (dD (startD ns)) → Q v (St r h' tk')) :
    wpAny (model prog w) A (call (.ref f) [vs]) Q E (St r h tk) := by
  refine callF (binds := [("script", vs)]) fn g.nolimit am.room hz (fun _ _ _ _ _ => rfl) (by rfl) (by decide) (fun cd h₁ tk₁ a => ?_)
  generalize hm : (fun x => List.lookup x [(Str.ofString "script", vs)].reverse) = m at a
  have m1 : m "script" = some vs := by rw [← hm]; rfl
  have am1 : Amb (A.deeper (envOf (nameF 14) (scopeF 14) h.objs.size f cd)) 1 3 := am.deeper _
  have gz : ∀ {h' : Heap}, Sub h h' → Gl mg mb h' := fun q => g.mono q
  refine wpAny_execs_cons (asg (wpAny_Dict_empty ?_))
  have a1 := a.made { cls := .type "dict", data := .dict #[] } rfl
  have hDn : (h₁.objs.size == sysModules) = false := beq_eq_false_iff_ne.mpr (Nat.ne_of_gt (modules_low (gz a.keep).nolimit))
  refine sto (r := r) a1 fun h2 a2 => ?_
  have g2 := gz a2.keep
  obtain ⟨f12, e12, fn12⟩ := g2.fn 12 (by decide)
  obtain ⟨c1, c2⟩ := cellN_range ns 12 (k := 3) (by decide)
  refine wpAny_execs_cons (wpAny_For (tcall g2.g (g2.miss _ (by decide)) g2.b g2.brange (args_cons (gcall g2.g e12 fn12 (args_cons (nm a2 (v := vs) (by walk_at "lk") (args_cons (cint (args_cons (cint (args_nil ⟨fun _ e => e, cell_spec (i := 12) g2 fn12 am1 a2.z hs hlen (by omega) (by decide) fun t3 h3 tk3 gr3 => ?_⟩)))))))))))
  have a3 := a2.call gr3
  refine args_nil (for_range (r := r) (T := []) (Ms := [(h₁.objs.size, { cls := .type "dict", data := .dict #[] })]) am1.hh (by omega) (by omega)
    (fun i Z' Ms' m' => ∃ o, Ms' = [(h₁.objs.size, o)] ∧ m' "s" = some (.ref h₁.objs.size) ∧ m' "script" = some vs ∧ DObj prog w Z' o (startN ns i))
    a3 ⟨_, rfl, by walk_at "lk", by walk_at "lk", DObj.nil prog w Z⟩ ?_ ?_)
  · rintro i t Z' Ms' T' h' m' tk' hi hz' ⟨o, rfl, m1', m2', ob⟩ a'
    have hi3 : i ≤ 3 := by omega
    have g3 := gz a'.keep
    obtain ⟨f12', e12', fn12'⟩ := g3.fn 12 (by decide)
    have hs' := hs.mono hz'
    refine wpAny_execs_cons (asg (gcall g3.g e12' fn12' (args_cons (nm a' (v := vs) (by walk_at "lk") (args_cons (wpAny_BinOp (cint (wpAny_BinOp (cint (nm a' (v := .int (i : Int) t) (by walk_at "lk") (mul_int (add_int (args_cons (cint (args_nil ?_)))))))))))))))
    have e13 : (13 : Int) + 2 * (i : Int) = ((13 + 2 * i : Nat) : Int) := by omega
    rw [e13]
    refine ⟨fun _ e => e, cell_spec (i := 13 + 2 * i) g3 fn12' am1 a'.z hs' hlen (by omega) (by decide) fun t4 h4 tk4 gr4 => ?_⟩
    have a4 := a'.call gr4
    obtain ⟨k1, k2⟩ := cellN_range ns (13 + 2 * i) (k := 4) (by decide)
    generalize hK : cellN ns (13 + 2 * i) 4 = K at k1 k2 ⊢
    refine sto (r := r) a4 fun h5 a5 => ?_
    have g5 := gz a5.keep
    obtain ⟨f12'', e12'', fn12''⟩ := g5.fn 12 (by decide)
    refine wpAny_execs_cons (wpAny_Assign_Subscript (List_ (args_cons (Tuple_ (args_cons (cstr (args_cons (wpAny_BinOp (wpAny_BinOp (nm a5 (v := .int K t4) (by walk_at "lk") (cint (add_int ?_))))))))))))
    refine gcall g5.g e12'' fn12'' (args_cons (nm a5 (v := vs) (by walk_at "lk") (args_cons (wpAny_BinOp (cint (wpAny_BinOp (cint (nm a5 (v := .int (i : Int) t) (by walk_at "lk") (mul_int (add_int (args_cons (wpAny_BinOp (cint (nm a5 (v := .int K t4) (by walk_at "lk") (sub_int (args_nil ?_))))))))))))))))
    have e14 : (14 : Int) + 2 * (i : Int) = ((14 + 2 * i : Nat) : Int) := by omega
    rw [e14]
    refine ⟨fun _ e => e, cell_spec (i := 14 + 2 * i) g5 fn12'' am1 a5.z hs' hlen (by omega) (by omega) fun t6 h6 tk6 gr6 => ?_⟩
    have a6 := a5.call gr6
    refine add_int (args_nil (tupF (r := r) a6 (.cons (.str _ _) (.cons (.int _ _) .nil)) fun l7 h7 Z7 hs7 a7 r7 => args_nil (lstF (r := r) a7 (.one r7) fun l8 h8 Z8 hs8 a8 rv => ?_)))
    have rv : Rd Z8 (.ref l8) (tyD (.var (K + 1 + cellN ns (14 + 2 * i) (4 - K)))) := rv
    have hl := startN_len ns i
    refine nm a8 (v := .ref h₁.objs.size) (by walk_at "lk") (nm a8 (v := .int K t4) (by walk_at "lk") (setM (r := r) (k := K) a8 ((ob.mono hs7).mono hs8) (by omega) rv fun o' h9 ob' a9 => ?_))
    refine wpAny_execs_nil (TurnEnd.next (Ms' := [(h₁.objs.size, o')]) (fun b o e => hs8 b o (hs7 b o e)) a9 ⟨o', rfl, by walk_at "lk", by walk_at "lk", ?_⟩)
    show DObj _ _ _ _ (stepD ns (startN ns i) i)
    unfold stepD; rw [hK]; exact ob'
  · rintro Z' Ms' h' m' tk' hz' ⟨o, rfl, m1', m2', ob⟩ a'
    obtain ⟨Z5, hs5, a5, e5⟩ := At.freezeHead a'
    refine wpAny_execs_cons (wpAny_Return_some (nm a5 (v := .ref h₁.objs.size) m1' ?_))
    exact k _ _ Z5 _ a5.grown ((ob.mono hs5).rd e5 hDn)
end
end Mine

namespace Mine
open PySem PyProof.Rows PySem.Calls
set_option maxRecDepth 100000

local macro_rules | `(tactic| walk_at "lk") => `(tactic| first | assumption | exact up_self | (refine up_ne (by decide) ?_; walk_at "lk"))

theorem ledOf_set (L : Int → Int) {k : Int} (h0 : 0 ≤ k) (h5 : k < 5) (x : Int) : (ledOf L).set k.toNat x = ledOf (fun v => if v = k then x else L v) := by
  have : k = 0 ∨ k = 1 ∨ k = 2 ∨ k = 3 ∨ k = 4 := by omega
  rcases this with rfl | rfl | rfl | rfl | rfl <;> rfl
def Li (d : Dc) (i : Nat) (v : Int) : Int := if 4 ≤ v + (i : Int) then lead d v else v
theorem Li0 {d : Dc} (h : Up d) : ledOf (Li d 0) = [0, 1, 2, 3, 4] := by
  have e : Li d 0 4 = 4 := by show (if (4 : Int) ≤ 4 + ((0 : Nat) : Int) then lead d 4 else 4) = 4; rw [if_pos (by decide), h.lead4]
  show [Li d 0 0, Li d 0 1, Li d 0 2, Li d 0 3, Li d 0 4] = _
  rw [e]; rfl
theorem Li4 (d : Dc) : ledOf (Li d 4) = ledOf (lead d) := rfl
theorem Li_in {d : Dc} (h : Up d) {i : Nat} {j : Int} (hl : look d (3 - (i : Int)) = some (.var j)) (hj : 3 - (i : Int) < j) : (fun v => if v = 3 - (i : Int) then Li d i j else Li d i v) = Li d (i + 1) := by
  funext v
  unfold Li
  by_cases e : v = 3 - (i : Int)
  · subst e
    rw [if_pos rfl, if_pos (by omega), if_pos (by omega)]
    exact h.lead_some hl
  · rw [if_neg e]
    by_cases q : 4 ≤ v + (i : Int)
    · rw [if_pos q, if_pos (by omega)]
    · rw [if_neg q, if_neg (by omega)]
theorem Li_out {d : Dc} {i : Nat} (hl : look d (3 - (i : Int)) = none) : Li d (i + 1) = Li d i := by
  funext v
  unfold Li
  by_cases e : v = 3 - (i : Int)
  · subst e
    rw [if_pos (by omega), if_neg (by omega)]
    exact lead_none hl
  · by_cases q : 4 ≤ v + (i : Int)
    · rw [if_pos q, if_pos (by omega)]
    · rw [if_neg q, if_neg (by omega)]
def Mv (L : Int → Int) (p q : Int) (i : Nat) (x : Int) : Int := if x < (i : Int) then step L (p, q) x else L x
theorem Mv_in {L : Int → Int} {p q : Int} {i : Nat} (h : L i = L p) : (fun x => if x = (i : Int) then L q else Mv L p q i x) = Mv L p q (i + 1) := by
  funext x
  unfold Mv
  by_cases e : x = (i : Int)
  · subst e
    rw [if_pos rfl, if_pos (by omega)]
    show L q = if L i = L p then L q else L i
    rw [if_pos h]
  · rw [if_neg e]
    by_cases c : x < (i : Int)
    · rw [if_pos c, if_pos (by omega)]
    · rw [if_neg c, if_neg (by omega)]
theorem Mv_out {L : Int → Int} {p q : Int} {i : Nat} (h : ¬ L i = L p) : Mv L p q (i + 1) = Mv L p q i := by
  funext x
  unfold Mv
  by_cases e : x = (i : Int)
  · subst e
    rw [if_pos (by omega), if_neg (by omega)]
    show (if L i = L p then L q else L i) = L i
    rw [if_neg h]
  · by_cases c : x < (i : Int)
    · rw [if_pos c, if_pos (by omega)]
    · rw [if_neg c, if_neg (by omega)]
theorem Mv0 (L : Int → Int) (p q : Int) : ledOf (Mv L p q 0) = ledOf L := rfl
theorem Mv5 (L : Int → Int) (p q : Int) : ledOf (Mv L p q 5) = ledOf (step L (p, q)) := rfl
theorem Mv_self (L : Int → Int) (p q : Int) (i : Nat) : Mv L p q i i = L i := by unfold Mv; rw [if_neg (by omega)]

section
variable {prog : Program} {w : World} {A : Around} {E : Value → Shared → Prop} {Z h : Heap} {r : Shared} {tk : Nat} {mg mb : Str → Option Value}

theorem lookD_led (L : Int → Int) {v : Int} (h0 : 0 ≤ v) (h5 : v < 5) : ((ledOf L).map PyData.int)[v.toNat]? = some (.int (L v)) := by rw [List.getElem?_map, ledOf_get L h0 h5]; rfl

set_option maxHeartbeats 4000000 in
theorem leaders_spec {f : Addr} {vd vl vr : Value} {d : Dc} {ls rs : List Int} {Q : Value → Shared → Prop} (g : Gl mg mb h) (fn : FnAt h f (nameF 15) (paramsF 15) (bodyF 15) (scopeF 15)) (am : Amb A 1 3)
    (hz : Sub Z h) (hd : RdD prog w Z Z vd (dD d)) (up : Up d) (hl : Rd Z vl (intsD ls)) (hr : Rd Z vr (intsD rs)) (hlen : ls.length = rs.length) (hl4 : ls.length ≤ 100) (hls : ∀ x ∈ ls, 0 ≤ x ∧ x < 5) (hrs : ∀ x ∈ rs, 0 ≤ x ∧ x < 5)
    (hR : ∀ i, ∀ v, 0 ≤ v → v < 5 → 0 ≤ ((ls.zip rs).take i).foldl step (lead d) v ∧ ((ls.zip rs).take i).foldl step (lead d) v < 5)
    (k : ∀ v h' Z' tk', Grown h Z h' Z' → Rd Z' v (intsD (ledOf ((ls.zip rs).foldl step (lead d)))) → Q v (St r h' tk')) :
    wpAny (model prog w) A (call (.ref f) [vd, vl, vr]) Q E (St r h tk) := by
  refine callF (binds := [("s", vd), ("left", vl), ("right", vr)]) fn g.nolimit am.room hz (fun _ _ _ _ _ => rfl) (by rfl) (by decide) (fun cd h₁ tk₁ a => ?_)
  generalize hm : (fun x => List.lookup x [(Str.ofString "s", vd), (Str.ofString "left", vl), (Str.ofString "right", vr)].reverse) = m at a
  have m1 : m "s" = some vd := by rw [← hm]; rfl
  have m2 : m "left" = some vl := by rw [← hm]; rfl
  have m3 : m "right" = some vr := by rw [← hm]; rfl
  have am1 : Amb (A.deeper (envOf (nameF 15) (scopeF 15) h.objs.size f cd)) 0 0 := am.deeper _
  have gz : ∀ {h' : Heap}, Sub h h' → Gl mg mb h' := fun q => g.mono q
  refine wpAny_execs_cons (asg (List_ (args_cons (cint (args_cons (cint (args_cons (cint (args_cons (cint (args_cons (cint (args_nil (newL (r := r) ?_))))))))))))))
  generalize hus : [Value.int 0 tk₁, Value.int 1 (tk₁ + 1), Value.int 2 (tk₁ + 1 + 1), Value.int 3 (tk₁ + 1 + 1 + 1), Value.int 4 (tk₁ + 1 + 1 + 1 + 1)] = us0
  have ru0 : RdAll Z us0 ((ledOf (Li d 0)).map .int) := by
    rw [Li0 up, ← hus]; exact .cons (.int _ _) (.cons (.int _ _) (.cons (.int _ _) (.cons (.int _ _) (.cons (.int _ _) .nil))))
  have a1 := a.made { cls := .type "list", data := .seq us0.toArray } rfl
  refine sto (r := r) a1 fun h2 a2 => ?_
  have g2 := gz a2.keep
  generalize hD0 : h₁.objs.size = D at a2
  generalize hm2 : Mine.up m "led" _ = mm at a2
  have p1 : mm "s" = some vd := by rw [← hm2]; walk_at "lk"
  have p2 : mm "left" = some vl := by rw [← hm2]; walk_at "lk"
  have p3 : mm "right" = some vr := by rw [← hm2]; walk_at "lk"
  have p4 : mm "led" = some (.ref D) := by rw [← hm2, ← hD0]; exact up_self
  -- the first loop
  refine wpAny_execs_cons (wpAny_For (Tuple_ (args_cons (cint (args_cons (cint (args_cons (cint (args_cons (cint (args_nil (tupF (r := r) (ds := [.int 3, .int 2, .int 1, .int 0]) a2 (.cons (.int _ _) (.cons (.int _ _) (.cons (.int _ _) (.cons (.int _ _) .nil)))) fun l3 h3 Z3 hs3 a3 r3 => ?_))))))))))))
  refine wpAny_mono (it_tuple (E := fun _ _ => False) (r := r) am1.hh a3.z (Sub.refl _) (Nat.le_refl _) r3) (fun it s₂ ready => ?_) fun _ _ q => q.elim
  refine for_it (r := r) (T := []) (Ms := [(D, { cls := .type "list", data := .seq us0.toArray })])
    (fun i Z' Ms' m' => ∃ o us, Ms' = [(D, o)] ∧ IsLO o us ∧ m' "s" = some vd ∧ m' "left" = some vl ∧ m' "right" = some vr ∧ m' "led" = some (.ref D) ∧ RdAll Z' us ((ledOf (Li d i)).map .int))
    a3 ⟨_, us0, rfl, ⟨rfl, _, rfl⟩, p1, p2, p3, p4, ru0.mono hs3⟩ ready ?_ ?_
  · rintro i v Z' Ms' T' h' m' tk' hi ⟨dv, hdv, rdv⟩ hz' ⟨o, us, rfl, lo, q1, q2, q3, q4, ru⟩ a'
    have hi : i < 4 := hi
    have hk : dv = .int (3 - (i : Int)) := by
      have : i = 0 ∨ i = 1 ∨ i = 2 ∨ i = 3 := by omega
      rcases this with rfl | rfl | rfl | rfl <;> (cases hdv; rfl)
    subst hk
    obtain ⟨t, rfl⟩ := rdv.unint
    have hdz : RdD prog w Z' Z' vd (dD d) := (hd.mono hs3 hs3).mono hz' hz'
    have hul : us.length = 5 := by have := ru.length; simpa [ledOf] using this
    refine wpAny_execs_cons (cutIf (look d (3 - (i : Int))).isSome ?_ ?_ ?_)
    · refine wpAny_isTrue_Compare1 (nm a' (v := .int (3 - (i : Int)) t) (by walk_at "lk") (nm a' (v := vd) (by walk_at "lk") (inD a'.z hdz (trB _ ?_ ⟨rfl, _, rfl⟩))))
      rw [lookD_dD]; cases look d (3 - (i : Int)) <;> rfl
    · intro hb tk5
      obtain ⟨T, hT⟩ : ∃ T, look d (3 - (i : Int)) = some T := by cases q : look d (3 - (i : Int)) with
        | none => rw [q] at hb; cases hb
        | some T => exact ⟨T, rfl⟩
      obtain ⟨j, rfl, _, hj1, hj2⟩ := up.up _ _ hT
      refine wpAny_execs_cons (wpAny_Assign_Subscript (Subscript_ (nm a' (v := .ref D) (by walk_at "lk") (Subscript_ (Subscript_ (Subscript_ (nm a' (v := vd) (by walk_at "lk") (nm a' (v := .int (3 - (i : Int)) t) (by walk_at "lk") (getD (x := tyD (.var j)) a'.z hdz (by rw [lookD_dD, hT]; rfl) fun x rx => cint (itL (d := itD ("var", j)) a'.z rx (by decide) (by decide) rfl fun y ry => cint (itT (d := .int j) a'.z ry (by decide) (by decide) rfl fun z rz => ?_)))))))))))
      obtain ⟨tj, rfl⟩ := rz.unint
      refine itM (d := .int (Li d i j)) (lo.at a'.head) ru (by omega) (by omega) (lookD_led _ (by omega) (by omega)) fun x rx => ?_
      refine nm a' (v := .ref D) (by walk_at "lk") (nm a' (v := .int (3 - (i : Int)) t) (by walk_at "lk") (setL (r := r) a' lo (by omega) (by omega) (by omega) fun o' h6 lo' a6 => ?_))
      refine wpAny_execs_nil (wpAny_execs_nil (TurnEnd.next (Ms' := [(D, o')]) (Sub.refl _) a6 ⟨o', _, rfl, lo', by walk_at "lk", by walk_at "lk", by walk_at "lk", by walk_at "lk", ?_⟩))
      have := RdAll.set rx ru (3 - (i : Int)).toNat
      have e : ((ledOf (Li d i)).map PyData.int).set (3 - (i : Int)).toNat (.int (Li d i j)) = (ledOf (Li d (i + 1))).map .int := by
        rw [← List.map_set, ledOf_set _ (by omega) (by omega), Li_in up hT hj1]
      rw [e] at this; exact this
    · intro hb tk5
      have hT : look d (3 - (i : Int)) = none := by cases q : look d (3 - (i : Int)) with
        | none => rfl
        | some T => rw [q] at hb; cases hb
      refine wpAny_execs_nil (wpAny_execs_nil (TurnEnd.next (Ms' := [(D, o)]) (Sub.refl _) a' ⟨o, us, rfl, lo, by walk_at "lk", by walk_at "lk", by walk_at "lk", by walk_at "lk", ?_⟩))
      rw [Li_out hT]; exact ru
  rintro Z4 Ms4 h4 m4 tk4 hz4 ⟨o4, us4, rfl, lo4, q1, q2, q3, q4, ru4⟩ a4
  have ru4 : RdAll Z4 us4 ((ledOf (lead d)).map .int) := ru4
  have g4 := gz a4.keep
  have hl4' : Rd Z4 vl (intsD ls) := (hl.mono hs3).mono hz4
  have hr4' : Rd Z4 vr (intsD rs) := (hr.mono hs3).mono hz4
  -- the second loop
  refine wpAny_execs_cons (wpAny_For (tcall g4.g (g4.miss _ (by decide)) g4.b g4.brange (args_cons (bcall g4.g (g4.miss _ (by decide)) g4.b g4.blen (args_cons (nm a4 (v := vl) (by walk_at "lk") (args_nil (lenL a4.z hl4' (by rw [List.length_map]; omega) fun t5 tk5 => ?_))))))))
  rw [List.length_map]
  refine args_nil (for_range (r := r) (T := []) (Ms := [(D, o4)]) am1.hh (by omega) (by omega)
    (fun i Z' Ms' m' => ∃ o us, Ms' = [(D, o)] ∧ IsLO o us ∧ m' "left" = some vl ∧ m' "right" = some vr ∧ m' "led" = some (.ref D) ∧ RdAll Z' us ((ledOf (((ls.zip rs).take i).foldl step (lead d))).map .int))
    a4 ⟨o4, us4, rfl, lo4, q2, q3, q4, ru4⟩ ?_ ?_)
  · rintro i ti Z' Ms' T' h' m' tk' hi hz' ⟨o, us, rfl, lo, s1, s2, s3, ru⟩ a'
    have hi : i < ls.length := by omega
    have hir : i < rs.length := by omega
    obtain ⟨hp0, hp5⟩ := hls ls[i] (List.getElem_mem hi)
    obtain ⟨hq0, hq5⟩ := hrs rs[i] (List.getElem_mem hir)
    have hRi := hR i
    generalize hL : ((ls.zip rs).take i).foldl step (lead d) = L at ru hRi
    refine wpAny_execs_cons (asg (Subscript_ (nm a' (v := .ref D) (by walk_at "lk") (Subscript_ (nm a' (v := vl) (by walk_at "lk") (nm a' (v := .int (i : Int) ti) (by walk_at "lk") (itL (d := .int ls[i]) a'.z (hl4'.mono hz') (by omega) (by omega) (by simp [hi]) fun x rx => ?_)))))))
    obtain ⟨tx, rfl⟩ := rx.unint
    refine itM (d := .int (L ls[i])) (lo.at a'.head) ru hp0 (by omega) (lookD_led _ hp0 hp5) fun x1 rx1 => ?_
    obtain ⟨tx1, rfl⟩ := rx1.unint
    refine sto (r := r) a' fun h6 a6 => wpAny_execs_cons (asg (Subscript_ (nm a6 (v := .ref D) (by walk_at "lk") (Subscript_ (nm a6 (v := vr) (by walk_at "lk") (nm a6 (v := .int (i : Int) ti) (by walk_at "lk") (itL (d := .int rs[i]) a6.z (hr4'.mono hz') (by omega) (by omega) (by simp [hir]) fun y ry => ?_)))))))
    obtain ⟨ty, rfl⟩ := ry.unint
    refine itM (d := .int (L rs[i])) (lo.at a6.head) ru hq0 (by omega) (lookD_led _ hq0 hq5) fun y1 ry1 => ?_
    obtain ⟨ty1, rfl⟩ := ry1.unint
    refine sto (r := r) a6 fun h7 a7 => ?_
    have g7 := gz a7.keep
    refine wpAny_execs_cons (wpAny_For (tcall g7.g (g7.miss _ (by decide)) g7.b g7.brange (args_cons (cint (args_nil (for_range (r := r) (T := T') (Ms := [(D, o)]) am1.hh (by decide) (by decide)
      (fun j Z'' Ms'' m'' => ∃ o us, Ms'' = [(D, o)] ∧ IsLO o us ∧ m'' "left" = some vl ∧ m'' "right" = some vr ∧ m'' "led" = some (.ref D) ∧ m'' "first" = some (.int (L ls[i]) tx1) ∧ m'' "second" = some (.int (L rs[i]) ty1) ∧ RdAll Z'' us ((ledOf (Mv L ls[i] rs[i] j)).map .int))
      a7 ⟨o, us, rfl, lo, by walk_at "lk", by walk_at "lk", by walk_at "lk", by walk_at "lk", by walk_at "lk", ru⟩ ?_ ?_))))))
    · rintro j tj Z'' Ms'' T'' h'' m'' tk'' hj hz'' ⟨o', us', rfl, lo', u1, u2, u3, u4, u5, ru'⟩ a''
      have hj : j < 5 := hj
      have hul : us'.length = 5 := by have := ru'.length; simpa [ledOf] using this
      refine wpAny_execs_cons (cutIf (decide (L j = L ls[i])) ?_ ?_ ?_)
      · refine wpAny_isTrue_Compare1 (Subscript_ (nm a'' (v := .ref D) (by walk_at "lk") (nm a'' (v := .int (j : Int) tj) (by walk_at "lk") (itM (d := .int (L j)) (lo'.at a''.head) ru' (by omega) (by omega) (by rw [← Mv_self L ls[i] rs[i] j]; exact lookD_led _ (by omega) (by omega)) fun x rx => ?_))))
        obtain ⟨tz, rfl⟩ := rx.unint
        exact nm a'' (v := .int (L ls[i]) tx1) (by walk_at "lk") (eq_int (trB _ (by rw [Bool.beq_eq_decide_eq]) ⟨rfl, _, rfl⟩))
      · intro hb tk8
        have hb := of_decide_eq_true hb
        refine wpAny_execs_cons (wpAny_Assign_Subscript (nm a'' (v := .int (L rs[i]) ty1) (by walk_at "lk") (nm a'' (v := .ref D) (by walk_at "lk") (nm a'' (v := .int (j : Int) tj) (by walk_at "lk") (setL (r := r) a'' lo' (by omega) (by omega) (by omega) fun o9 h9 lo9 a9 => ?_)))))
        refine wpAny_execs_nil (wpAny_execs_nil (TurnEnd.next (Ms' := [(D, o9)]) (Sub.refl _) a9 ⟨o9, _, rfl, lo9, by walk_at "lk", by walk_at "lk", by walk_at "lk", by walk_at "lk", by walk_at "lk", ?_⟩))
        have := RdAll.set (.int (L rs[i]) ty1) ru' (j : Int).toNat
        have e : ((ledOf (Mv L ls[i] rs[i] j)).map PyData.int).set (j : Int).toNat (.int (L rs[i])) = (ledOf (Mv L ls[i] rs[i] (j + 1))).map .int := by
          rw [← List.map_set, ledOf_set _ (by omega) (by omega), Mv_in hb]
        rw [e] at this; exact this
      · intro hb tk8
        have hb := of_decide_eq_false hb
        refine wpAny_execs_nil (wpAny_execs_nil (TurnEnd.next (Ms' := [(D, o')]) (Sub.refl _) a'' ⟨o', us', rfl, lo', by walk_at "lk", by walk_at "lk", by walk_at "lk", by walk_at "lk", by walk_at "lk", ?_⟩))
        rw [Mv_out hb]; exact ru'
    · rintro Z'' Ms'' h'' m'' tk'' hz'' ⟨o', us', rfl, lo', u1, u2, u3, u4, u5, ru'⟩ a''
      refine wpAny_execs_nil (TurnEnd.next (Ms' := [(D, o')]) hz'' a'' ⟨o', us', rfl, lo', by walk_at "lk", by walk_at "lk", by walk_at "lk", ?_⟩)
      have e : ((ls.zip rs).take (i + 1)).foldl step (lead d) = step L (ls[i], rs[i]) := by
        rw [List.take_add_one, List.foldl_append, hL]
        have : (ls.zip rs)[i]? = some (ls[i], rs[i]) := by rw [List.getElem?_eq_getElem (by rw [List.length_zip]; omega), List.getElem_zip]
        rw [this]; rfl
      rw [e]; exact ru'
  · rintro Z' Ms' h' m' tk' hz' ⟨o, us, rfl, lo, s1, s2, s3, ru⟩ a'
    obtain ⟨Z5, hs5, a5, e5⟩ := At.freezeHead a'
    refine wpAny_execs_cons (wpAny_Return_some (nm a5 (v := .ref D) s3 ?_))
    have e : (ls.zip rs).take (ls.length : Int).toNat = ls.zip rs := by
      rw [Int.toNat_natCast]; exact List.take_of_length_le (by rw [List.length_zip]; omega)
    rw [e] at ru
    exact k _ _ Z5 _ a5.grown (lo.rd e5 (ru.mono hs5))
end
end Mine

namespace Mine
open PySem PyProof.Rows PySem.Calls
set_option maxRecDepth 100000

local macro_rules | `(tactic| walk_at "lk") => `(tactic| first | assumption | exact up_self | (refine up_ne (by decide) ?_; walk_at "lk"))

def dueD (L : Int → Int) (mk : Bool) (v u w : Int) (fuel : Nat) (size : Nat) : PyData :=
  if fuel < 2 then .str "fuel" else if L v = L u then .str "occurs" else if fuel < 3 then .str "fuel" else if L v = L w then .str "clash"
  else .list [tyD (imageT L mk u w), tyD (imageT L mk u w), .int ((size : Int) + 2)]

section
variable {prog : Program} {w : World} {A : Around} {E : Value → Shared → Prop} {Z h : Heap} {r : Shared} {tk : Nat} {mg mb : Str → Option Value}

set_option maxHeartbeats 4000000 in
theorem due_spec {f : Addr} {vled vmk : Value} {L : Int → Int} {mk : Bool} {v u x : Int} {fuel size : Nat} {tv tu tx tf ts : Tok} {Q : Value → Shared → Prop} (g : Gl mg mb h) (fn : FnAt h f (nameF 17) (paramsF 17) (bodyF 17) (scopeF 17)) (am : Amb A 1 3)
    (hz : Sub Z h) (hled : Rd Z vled (intsD (ledOf L))) (hmk : Rd Z vmk (.str (mkS mk))) (hv : 0 ≤ v ∧ v < 5) (hu : 0 ≤ u ∧ u < 5) (hx : 0 ≤ x ∧ x < 5)
    (k : ∀ y h' Z' tk', Grown h Z h' Z' → Rd Z' y (dueD L mk v u x fuel size) → Q y (St r h' tk')) :
    wpAny (model prog w) A (call (.ref f) [vled, .int v tv, .int u tu, .int x tx, vmk, .int (fuel : Int) tf, .int (size : Int) ts]) Q E (St r h tk) := by
  refine callF (binds := [("led", vled), ("v", .int v tv), ("u", .int u tu), ("w", .int x tx), ("maker", vmk), ("fuel", .int (fuel : Int) tf), ("size", .int (size : Int) ts)]) fn g.nolimit am.room hz (fun _ _ _ _ _ => rfl) (by rfl) (by decide) (fun cd h₁ tk₁ a => ?_)
  generalize hm : (fun y => List.lookup y [(Str.ofString "led", vled), (Str.ofString "v", .int v tv), (Str.ofString "u", .int u tu), (Str.ofString "w", .int x tx), (Str.ofString "maker", vmk), (Str.ofString "fuel", .int (fuel : Int) tf), (Str.ofString "size", .int (size : Int) ts)].reverse) = m at a
  have m1 : m "led" = some vled := by rw [← hm]; rfl
  have m2 : m "v" = some (.int v tv) := by rw [← hm]; rfl
  have m3 : m "u" = some (.int u tu) := by rw [← hm]; rfl
  have m4 : m "w" = some (.int x tx) := by rw [← hm]; rfl
  have m5 : m "maker" = some vmk := by rw [← hm]; rfl
  have m6 : m "fuel" = some (.int (fuel : Int) tf) := by rw [← hm]; rfl
  have m7 : m "size" = some (.int (size : Int) ts) := by rw [← hm]; rfl
  -- fuel < 2
  refine wpAny_execs_cons (cutIf (decide (fuel < 2)) ?_ ?_ ?_)
  · refine wpAny_isTrue_Compare1 (nm a (v := .int (fuel : Int) tf) m6 (cint (lt_int (trB _ ?_ ⟨rfl, _, rfl⟩))))
    congr 1; exact propext (by omega)
  · intro hb tk2
    have hb := of_decide_eq_true hb
    refine wpAny_execs_cons (wpAny_Return_some (cstr (k _ _ Z _ a.grown ?_)))
    unfold dueD; rw [if_pos hb]; exact .str _ _
  intro hb1 tk2
  have hb1 := of_decide_eq_false hb1
  -- occurs
  refine wpAny_execs_nil (wpAny_execs_cons (cutIf (decide (L v = L u)) ?_ ?_ ?_))
  · refine wpAny_isTrue_Compare1 (Subscript_ (nm a (v := vled) m1 (nm a (v := .int v tv) m2 (itL (d := .int (L v)) a.z hled hv.1 (by omega) (lookD_led _ hv.1 hv.2) fun y1 r1 => ?_))))
    obtain ⟨t1, rfl⟩ := r1.unint
    refine Subscript_ (nm a (v := vled) m1 (nm a (v := .int u tu) m3 (itL (d := .int (L u)) a.z hled hu.1 (by omega) (lookD_led _ hu.1 hu.2) fun y2 r2 => ?_)))
    obtain ⟨t2, rfl⟩ := r2.unint
    exact eq_int (trB _ (by rw [Bool.beq_eq_decide_eq]) ⟨rfl, _, rfl⟩)
  · intro hb tk3
    have hb := of_decide_eq_true hb
    refine wpAny_execs_cons (wpAny_Return_some (cstr (k _ _ Z _ a.grown ?_)))
    unfold dueD; rw [if_neg hb1, if_pos hb]; exact .str _ _
  intro hb2 tk3
  have hb2 := of_decide_eq_false hb2
  -- fuel < 3
  refine wpAny_execs_nil (wpAny_execs_cons (cutIf (decide (fuel < 3)) ?_ ?_ ?_))
  · refine wpAny_isTrue_Compare1 (nm a (v := .int (fuel : Int) tf) m6 (cint (lt_int (trB _ ?_ ⟨rfl, _, rfl⟩))))
    congr 1; exact propext (by omega)
  · intro hb tk2
    have hb := of_decide_eq_true hb
    refine wpAny_execs_cons (wpAny_Return_some (cstr (k _ _ Z _ a.grown ?_)))
    unfold dueD; rw [if_neg hb1, if_neg hb2, if_pos hb]; exact .str _ _
  intro hb3 tk4
  have hb3 := of_decide_eq_false hb3
  -- clash
  refine wpAny_execs_nil (wpAny_execs_cons (cutIf (decide (L v = L x)) ?_ ?_ ?_))
  · refine wpAny_isTrue_Compare1 (Subscript_ (nm a (v := vled) m1 (nm a (v := .int v tv) m2 (itL (d := .int (L v)) a.z hled hv.1 (by omega) (lookD_led _ hv.1 hv.2) fun y1 r1 => ?_))))
    obtain ⟨t1, rfl⟩ := r1.unint
    refine Subscript_ (nm a (v := vled) m1 (nm a (v := .int x tx) m4 (itL (d := .int (L x)) a.z hled hx.1 (by omega) (lookD_led _ hx.1 hx.2) fun y2 r2 => ?_)))
    obtain ⟨t2, rfl⟩ := r2.unint
    exact eq_int (trB _ (by rw [Bool.beq_eq_decide_eq]) ⟨rfl, _, rfl⟩)
  · intro hb tk3
    have hb := of_decide_eq_true hb
    refine wpAny_execs_cons (wpAny_Return_some (cstr (k _ _ Z _ a.grown ?_)))
    unfold dueD; rw [if_neg hb1, if_neg hb2, if_neg hb3, if_pos hb]; exact .str _ _
  intro hb4 tk5
  have hb4 := of_decide_eq_false hb4
  have hdue : dueD L mk v u x fuel size = .list [tyD (imageT L mk u x), tyD (imageT L mk u x), .int ((size : Int) + 2)] := by
    unfold dueD; rw [if_neg hb1, if_neg hb2, if_neg hb3, if_neg hb4]
  rw [hdue] at k
  clear hdue
  -- top
  refine wpAny_execs_nil (wpAny_execs_cons (asg (List_ (args_cons (Tuple_ (args_cons (cstr (args_cons (Subscript_ (nm a (v := vled) m1 (nm a (v := .int u tu) m3 (itL (d := .int (L u)) a.z hled hu.1 (by omega) (lookD_led _ hu.1 hu.2) fun y1 r1 => args_nil (tupF (r := r) a (.cons (.str "var" _) (.cons r1 .nil)) fun l6 h6 Z6 hs6 a6 r6 => args_nil (lstF (r := r) a6 (.one r6) fun l7 h7 Z7 hs7 a7 r7 => sto (r := r) a7 fun h8 a8 => ?_))))))))))))))
  have r7 : Rd Z7 (.ref l7) (tyD (.var (L u))) := r7
  have hz7 : Sub Z Z7 := fun b o e => hs7 b o (hs6 b o e)
  have hled7 := hled.mono hz7
  have fin : ∀ l9 h9 Z9 m9 tk9, Sub Z Z9 → At h Z Z9 (envOf (nameF 17) (scopeF 17) h.objs.size f cd).locals [] h9 m9 → m9 "top" = some (.ref l9) → m9 "maker" = some vmk → m9 "size" = some (.int (size : Int) ts) → Rd Z9 (.ref l9) (tyD (topT L u x)) →
      wpAny (model prog w) (A.deeper (envOf (nameF 17) (scopeF 17) h.objs.size f cd)) (execs ((bodyF 17).drop 6) (envOf (nameF 17) (scopeF 17) h.objs.size f cd))
        (fun fl s' => Q (match fl with | .ret v => v | _ => .none) s') (fun _ _ => False) (St r h9 tk9) := by
    intro l9 h9 Z9 m9 tk9 hz9 a9 p1 p2 p3 rt
    have hlen : ((topT L u x).enc.map itD).length = 1 := by rw [List.length_map]; unfold topT; split <;> rfl
    refine wpAny_execs_cons (asg (wpAny_BinOp (wpAny_BinOp (nm a9 (v := .ref l9) p1 (nm a9 (v := .ref l9) p1 (addF (r := r) a9 rt rt (by omega) fun lA hA ZA hsA aA rA => ?_))))))
    refine List_ (args_cons (Tuple_ (args_cons (cstr (args_cons (cint (args_nil (tupF (r := r) aA (.cons (.str "pair" _) (.cons (.int 0 _) .nil)) fun lB hB ZB hsB aB rB => ?_))))))))
    refine args_cons (Tuple_ (args_cons (cstr (args_cons (cint (args_nil (tupF (r := r) aB (.cons (.str "int" _) (.cons (.int 0 _) .nil)) fun lC hC ZC hsC aC rC => ?_)))))))
    have hzC : Sub Z ZC := fun b o e => hsC b o (hsB b o (hsA b o (hz9 b o e)))
    refine args_cons (Tuple_ (args_cons (nm aC (v := vmk) p2 (args_cons (cint (args_nil (tupF (r := r) aC (.cons (hmk.mono hzC) (.cons (.int 0 _) .nil)) fun lD' hD ZD hsD aD rD => ?_)))))))
    refine args_nil (lstF (r := r) aD (.cons ((rB.mono hsC).mono hsD) (.cons (rC.mono hsD) (.one rD))) fun lE hE ZE hsE aE rE => ?_)
    refine addF (r := r) aE ((((rA.mono hsB).mono hsC).mono hsD).mono hsE) rE (by rw [List.length_append]; simp only [List.length_cons, List.length_nil]; omega) fun lF hF ZF hsF aF rF => sto (r := r) aF fun hG aG => ?_
    have rF : Rd ZF (.ref lF) (tyD (imageT L mk u x)) := by
      have e : tyD (imageT L mk u x) = .list (((topT L u x).enc.map itD ++ (topT L u x).enc.map itD) ++ [.tuple [.str "pair", .int 0], .tuple [.str "int", .int 0], .tuple [.str (mkS mk), .int 0]]) := by
        show PyData.list ((((topT L u x).enc ++ (topT L u x).enc ++ [(("pair" : Str), (0 : Int))]) ++ [(("int" : Str), (0 : Int))] ++ [(mkS mk, 0)]).map itD) = _
        simp only [List.map_append, List.append_assoc]
        rfl
      rw [e]; exact rF
    refine wpAny_execs_cons (wpAny_Return_some (List_ (args_cons (nm aG (v := .ref lF) (by walk_at "lk") (args_cons (nm aG (v := .ref lF) (by walk_at "lk") (args_cons (wpAny_BinOp (nm aG (v := .int (size : Int) ts) (by walk_at "lk") (cint (add_int (args_nil (lstF (r := r) aG (.cons rF (.cons rF (.one (.int _ _)))) fun lH hH ZH hsH aH rH => k _ _ ZH _ aH.grown rH)))))))))))))
  refine wpAny_execs_cons (cutIf (decide (L u = L x)) ?_ ?_ ?_)
  · refine wpAny_isTrue_Compare1 (Subscript_ (nm a8 (v := vled) (by walk_at "lk") (nm a8 (v := .int u tu) (by walk_at "lk") (itL (d := .int (L u)) a8.z hled7 hu.1 (by omega) (lookD_led _ hu.1 hu.2) fun y1 r1 => ?_))))
    obtain ⟨t1, rfl⟩ := r1.unint
    refine Subscript_ (nm a8 (v := vled) (by walk_at "lk") (nm a8 (v := .int x tx) (by walk_at "lk") (itL (d := .int (L x)) a8.z hled7 hx.1 (by omega) (lookD_led _ hx.1 hx.2) fun y2 r2 => ?_)))
    obtain ⟨t2, rfl⟩ := r2.unint
    exact eq_int (trB _ (by rw [Bool.beq_eq_decide_eq]) ⟨rfl, _, rfl⟩)
  · intro hb tk9
    have hb := of_decide_eq_true hb
    refine wpAny_execs_cons (asg (List_ (args_cons (Tuple_ (args_cons (cstr (args_cons (cint (args_nil (tupF (r := r) a8 (.cons (.str "int" _) (.cons (.int 0 _) .nil)) fun lB hB ZB hsB aB rB => args_nil (lstF (r := r) aB (.one rB) fun lC hC ZC hsC aC rC => sto (r := r) aC fun hD aD => wpAny_execs_nil ?_)))))))))))
    refine fin lC hD ZC _ _ (fun b o e => hsC b o (hsB b o (hz7 b o e))) aD (by walk_at "lk") (by walk_at "lk") (by walk_at "lk") ?_
    have e : topT L u x = .int := by unfold topT; rw [if_pos hb]
    rw [e]; exact rC
  · intro hb tk9
    have hb := of_decide_eq_false hb
    refine wpAny_execs_nil (fin l7 h8 Z7 _ _ hz7 a8 (by walk_at "lk") (by walk_at "lk") (by walk_at "lk") ?_)
    have e : topT L u x = .var (L u) := by unfold topT; rw [if_neg hb]
    rw [e]; exact r7
end
end Mine

namespace Mine
open PySem
set_option maxRecDepth 100000

theorem fold_mono : ∀ (ps : List (Int × Int)) (M : Int → Int) {x y : Int}, M x = M y → ps.foldl step M x = ps.foldl step M y
  | [], _, _, _, h => h
  | p :: ps, M, x, y, h => fold_mono ps _ (by show (if M x = M p.1 then M p.2 else M x) = if M y = M p.1 then M p.2 else M y; rw [h])
theorem fold_joins : ∀ (ps : List (Int × Int)) (M : Int → Int), ∀ p ∈ ps, ps.foldl step M p.1 = ps.foldl step M p.2
  | [], _, _, h => by cases h
  | q :: ps, M, p, h => by
    rcases List.mem_cons.mp h with rfl | h
    · refine fold_mono ps _ ?_
      show (if M p.1 = M p.1 then M p.2 else M p.1) = if M p.2 = M p.1 then M p.2 else M p.2
      rw [if_pos rfl]; split <;> rfl
    · exact fold_joins ps _ p h
theorem Sk.fill_eq (f g : Nat → Int) : ∀ S : Sk, (∀ p ∈ S.pairs f g, p.1 = p.2) → S.fill f = S.fill g
  | .leaf i, h => congrArg Ty.var (h (f i, g i) (.head _))
  | .node m l r, h => by
    show Ty.node m _ _ = Ty.node m _ _
    rw [l.fill_eq f g fun p hp => h p (List.mem_append.mpr (.inl hp)), r.fill_eq f g fun p hp => h p (List.mem_append.mpr (.inr hp))]
theorem fill_joins (S : Sk) (f g : Nat → Int) (M : Int → Int) : (S.fill fun i => (S.pairs f g).foldl step M (f i)) = S.fill fun i => (S.pairs f g).foldl step M (g i) := by
  refine S.fill_eq _ _ ?_
  rw [S.pairs_map ((S.pairs f g).foldl step M) f g]
  intro p hp
  obtain ⟨q, hq, rfl⟩ := List.mem_map.mp hp
  exact fold_joins _ M q hq

theorem step_range {L : Int → Int} (h : ∀ v, 0 ≤ v → v < 5 → 0 ≤ L v ∧ L v < 5) {p : Int × Int} (h2 : 0 ≤ p.2 ∧ p.2 < 5) : ∀ v, 0 ≤ v → v < 5 → 0 ≤ step L p v ∧ step L p v < 5 := by
  intro v h0 h5
  unfold step
  split
  · exact h _ h2.1 h2.2
  · exact h v h0 h5
theorem fold_range : ∀ (ps : List (Int × Int)) {L : Int → Int}, (∀ v, 0 ≤ v → v < 5 → 0 ≤ L v ∧ L v < 5) → (∀ p ∈ ps, 0 ≤ p.2 ∧ p.2 < 5) → ∀ v, 0 ≤ v → v < 5 → 0 ≤ ps.foldl step L v ∧ ps.foldl step L v < 5
  | [], _, h, _ => h
  | p :: ps, _, h, hp => fold_range ps (step_range h (hp p (.head _))) fun q hq => hp q (.tail _ hq)

/-! sizes below the last dict -/
inductive Low (a : Int) : Ty → Prop
  | var (x : Int) : Low a (.var x)
  | int : Low a .int
  | two (l r : Ty) : (l = .var a ∨ l = .int) → (r = .var a ∨ r = .int) → Low a (.node true l r)
theorem Low.len {a : Int} {t : Ty} (h : Low a t) : t.len ≤ 3 := by
  cases h with
  | var => exact Nat.le_of_ble_eq_true rfl
  | int => exact Nat.le_of_ble_eq_true rfl
  | two l r hl hr => rcases hl with rfl | rfl <;> rcases hr with rfl | rfl <;> exact Nat.le_of_ble_eq_true rfl
theorem R.look_var {s : Dc} {L : Int → Int} (h : R s L) {x : Int} {T : Ty} (e : look s x = some T) : ∃ y, T = .var y := by
  obtain ⟨rk, _, hk⟩ := h.rank
  obtain ⟨y, rfl, _⟩ := hk x T e
  exact ⟨y, rfl⟩
theorem Low.subst {s : Dc} {L : Int → Int} (h : R s L) {v u w : Int} (h1 : L v ≠ L u) {t : Ty} (ht : Low (L u) t) : Low (L u) (t.subst (out2 s L v u w)) := by
  have lu : (Ty.var (L u)).subst (out2 s L v u w) = .var (L u) ∨ (Ty.var (L u)).subst (out2 s L v u w) = .int := by
    show (look _ (L u)).getD _ = _ ∨ (look _ (L u)).getD _ = _
    rw [look2 h v u w _ (h.look_lead u), if_neg h1]
    by_cases e : L w = L u
    · rw [if_pos e]; exact .inr rfl
    · rw [if_neg e]; exact .inl rfl
  have one : ∀ l, (l = Ty.var (L u) ∨ l = .int) → (l.subst (out2 s L v u w) = Ty.var (L u) ∨ l.subst (out2 s L v u w) = .int) := by
    rintro l (rfl | rfl)
    · exact lu
    · exact .inr rfl
  cases ht with
  | int => exact .int
  | two l r hl hr => exact .two _ _ (one l hl) (one r hr)
  | var x =>
    show Low _ ((look (out2 s L v u w) x).getD (.var x))
    unfold out2
    rw [List.append_assoc, look_append]
    cases q : look s x with
    | some T => obtain ⟨y, rfl⟩ := h.look_var q; exact .var y
    | none =>
      show Low _ ((look ((L v, _) :: [(L w, Ty.int)]) x).getD (.var x))
      rw [look_cons, look_cons, look_nil]
      split
      · exact .two _ _ (.inl rfl) (.inl rfl)
      · split
        · exact .int
        · exact .var x
theorem Low.iter {s : Dc} {L : Int → Int} (h : R s L) {v u w : Int} (h1 : L v ≠ L u) : ∀ (i : Nat) {t : Ty}, Low (L u) t → Low (L u) (Mine.iter (out2 s L v u w) i t)
  | 0, _, ht => ht
  | i + 1, _, ht => Low.iter h h1 i (Low.subst h h1 ht)
theorem small_x {s : Dc} {L : Int → Int} (h : R s L) (m : Bool) {v u w : Int} (h1 : L v ≠ L u) : Small (out2 s L v u w) (xT m v w) := by
  intro i
  unfold xT
  rw [iter_node]
  have a := (Low.iter h h1 (w := w) i (.var v)).len
  have b := (Low.iter h h1 (w := w) i (.var w)).len
  show _ + _ + 1 ≤ 60
  omega
theorem small_y {s : Dc} {L : Int → Int} (h : R s L) (m : Bool) {v u w : Int} (h1 : L v ≠ L u) : Small (out2 s L v u w) (yT m u) := by
  intro i
  unfold yT
  rw [iter_node, iter_node, iter_int]
  have a := (Low.iter h h1 (w := w) i (.var u)).len
  show _ + _ + 1 + 1 + 1 ≤ 60
  omega

/-! the shapes -/
def shp : Nat → List Nat
  | 0 => [0]
  | 1 => [0, 1, 4]
  | 2 => [0, 1, 4, 2, 5]
  | 3 => [0, 1, 2, 4, 5]
  | 4 => [0, 1, 4, 2, 5, 3, 6]
  | 5 => [0, 1, 2, 3, 4, 5, 6]
  | _ => [0, 1, 4, 2, 3, 5, 6]
def lvs : Nat → Nat
  | 0 => 1
  | 1 => 2
  | 2 => 3
  | 3 => 3
  | _ => 4
theorem cases7 {k : Nat} (h : k < 7) : k = 0 ∨ k = 1 ∨ k = 2 ∨ k = 3 ∨ k = 4 ∨ k = 5 ∨ k = 6 := by omega
theorem shp_len {k : Nat} (h : k < 7) : ((shp k).length : Int) + 1 = 2 * (lvs k : Int) := by rcases cases7 h with rfl | rfl | rfl | rfl | rfl | rfl | rfl <;> rfl
theorem shp_le (k : Nat) : (shp k).length ≤ 100 := by unfold shp; split <;> decide
theorem lvs_le (k : Nat) : 1 ≤ lvs k ∧ lvs k ≤ 4 := by unfold lvs; split <;> decide
theorem sk_size (k : Nat) (a b c : Bool) : (sk k a b c).size ≤ 7 := by unfold sk; split <;> exact Nat.le_of_ble_eq_true rfl
def l4 (f : Nat → Int) : List Int := [f 0, f 1, f 2, f 3]
theorem sk_pairs {k : Nat} (h : k < 7) (a b c : Bool) (f g : Nat → Int) : ((l4 f).take (lvs k)).zip ((l4 g).take (lvs k)) = (sk k a b c).pairs f g := by
  rcases cases7 h with rfl | rfl | rfl | rfl | rfl | rfl | rfl <;> rfl
theorem sk_fill {k : Nat} (h : k < 7) (a b c : Bool) (f : Nat → Int) : (shp k).map (fun p => (((l4 f).map (fun v => (("var" : Str), v))) ++ [mkS a, mkS b, mkS c].map fun m => (m, (0 : Int)))[p]?) = ((sk k a b c).fill f).enc.map some := by
  rcases cases7 h with rfl | rfl | rfl | rfl | rfl | rfl | rfl <;> rfl
end Mine

namespace Mine
open PySem PyProof.Rows PySem.Calls
set_option maxRecDepth 100000

theorem valueAt_nodup : ∀ {kvs : List (Int × Value)}, (kvs.map (·.1)).Nodup → ∀ {k : Int} {v : Value}, (k, v) ∈ kvs → valueAt kvs k = some v
  | [], _, _, _, h => by cases h
  | (a, u) :: kvs, hn, k, v, h => by
    rw [List.map_cons, List.nodup_cons] at hn
    unfold valueAt
    rw [List.find?_cons]
    rcases List.mem_cons.mp h with h | h
    · cases h; simp
    · have : a ≠ k := fun e => hn.1 (by rw [e]; exact List.mem_map.mpr ⟨(k, v), h, rfl⟩)
      simp only [this, decide_false]
      exact valueAt_nodup hn.2 h

section
variable {prog : Program} {w : World} {A : Around} {E : Value → Shared → Prop} {env : Env} {h₀ Z₀ Z : Heap} {L : Addr} {Ms T : List (Addr × Obj)} {h : Heap} {m : Str → Option Value} {r : Shared} {tk : Nat}

theorem hits_of {s : Shared} (hu : A.units + 2 < cLine) {kb : List (Int × Value)} {db : Dc} (hkb : kb.map (·.1) = db.map (·.1)) (hvb : RdAll s.heap (kb.map (·.2)) (db.map fun p => tyD p.2)) :
    ∀ (ka : List (Int × Value)) (da : Dc), ka.map (·.1) = da.map (·.1) → RdAll s.heap (ka.map (·.2)) (da.map fun p => tyD p.2) → (∀ p ∈ da, look db p.1 = some p.2) → PySem.W.KeqHits A s kb ka true
  | [], _, _, _, _ => .nil
  | (k, v) :: ka, [], e, _, _ => by cases e
  | (k, v) :: ka, (k', t) :: da, e, l, hl => by
    simp only [List.map_cons, List.cons.injEq] at e
    obtain ⟨rfl, e⟩ := e
    rw [List.map_cons, List.map_cons] at l
    obtain ⟨v', r', e', l1, l2⟩ := l.uncons
    obtain ⟨rfl, rfl⟩ := List.cons.inj e'
    have hk := hl (k, t) (.head _)
    have hk' : lookD (dD db) k = some (tyD t) := by rw [lookD_dD, hk]; rfl
    rcases valueAt_look (d := dD db) (by rw [hkb]; simp [dD]) (by have : (dD db).map (·.2) = db.map fun p => tyD p.2 := by simp [dD]
                                                                  rw [this]; exact hvb) k with ⟨y, x, e1, e2, ry⟩ | ⟨_, e2⟩
    · rw [hk'] at e2
      cases e2
      obtain ⟨as, l1⟩ := l1
      obtain ⟨bs, ry⟩ := ry
      have hm : min (tyD t).depth (tyD t).depth ≤ 2 := by rw [Nat.min_self]; exact depth_lD _
      have q := SeqAt.eqAt_reads _ _ A s v y as bs l1 ry (canLay_tyD t) (canLay_tyD t) (by omega)
      rw [SeqAt.eqv_refl _ (canLay_tyD t)] at q
      exact PySem.W.KeqHits.hit (e := true) (b := true) e1 q (hits_of hu hkb hvb ka da e l2 fun p hp => hl p (.tail _ hp))
    · rw [hk'] at e2; cases e2

/-- two dicts of the same data differ not -/
theorem neD {va vb : Value} {d : Dc} {Q : Value → Shared → Prop} (ha : RdD prog w h h va (dD d)) (hb : RdD prog w h h vb (dD d)) (hnd : (d.map (·.1)).Nodup) (hu : A.units + 10 < cLine) (q : Q (.bool false) (St r h tk)) :
    wpAny (model prog w) A (compareOp .NotEq va vb) Q E (St r h tk) := by
  obtain ⟨a, ka, rfl, na, oa, k1, l1⟩ := ha
  obtain ⟨b, kb, rfl, nb, ob, k2, l2⟩ := hb
  have e1 : (dD d).map (·.1) = d.map (·.1) := by simp [dD]
  have e2 : (dD d).map (·.2) = d.map fun p => tyD p.2 := by simp [dD]
  rw [e1] at k1 k2
  rw [e2] at l1 l2
  have hlen : ka.length = kb.length := by have := congrArg List.length (k1.trans k2.symm); simpa using this
  refine PySem.W.keq_ne (s := St r h tk) na nb oa ob (by omega) (fun _ => hits_of (A := A.in1) (s := St r h tk) (by have : A.in1.units = A.units + 1 := rfl
                                                                                                                    omega) k2 l2 ka d k1 l1 ?_) ?_
  · intro p hp
    obtain ⟨i, hi⟩ := List.getElem?_of_mem hp
    exact (take_new hnd (k := p.1) (T := p.2) hi).1
  · have : (!(ka.length == kb.length && true)) = false := by rw [hlen]; simp
    rw [this]; exact q

theorem isiD {va : Value} {d : List (Int × PyData)} {H : Heap} {Q : Value → Shared → Prop} (hs : Sub H h) (ha : RdD prog w H Z va d) (q : Q (.bool true) (St r h tk)) :
    wpAny (model prog w) A (call (.builtin "isinstance") [va, .type "dict"]) Q E (St r h tk) := by
  obtain ⟨a, ka, rfl, na, oa, k1, l1⟩ := ha
  obtain ⟨o, e, c⟩ := Heap.DictOf.typeIs (s := St r h tk) (dictOf_mono hs oa)
  exact PySem.IsiPair.dict_dict (s := St r h tk) e c q

theorem getM {va : Value} {d : List (Int × PyData)} {H : Heap} {k : Int} {u : Tok} {x : PyData} {p pa apos pos : Pos} {n1 n2 : Str} {Q : Value → Shared → Prop} (a : At h₀ Z₀ Z env.locals Ms h m) (hs : Sub H h) (hd : RdD prog w H Z va d) (hx : lookD d k = some x)
    (m1 : m n1 = some va) (m2 : m n2 = some (.int k u)) (q : ∀ v, Rd Z v x → Q v (St r h (tk + 1)))
    (hbase : attributeBase (.Name n1 p) "get" env (eval (.Name n1 p) env) = eval (.Name n1 p) env := by rfl) (hline : (apos.endLine == pos.line) = true := by rfl)
    (htrees : backTo pos (starEach [.Name n2 pa] env) = [(false, eval (.Name n2 pa) env)] := by rfl)
    (hk : env.scope.kind = .function := by rfl) (hl1 : env.kindOf n1 = some .local := by rfl) (hl2 : env.kindOf n2 = some .local := by rfl) (hd1 : (n1 == ("__debug__" : Str)) = false := by decide) (hd2 : (n2 == ("__debug__" : Str)) = false := by decide) :
    wpAny (model prog w) A (eval (.Call (.Attribute (.Name n1 p) "get" apos) [.Name n2 pa] [] pos) env) Q E (St r h tk) := by
  obtain ⟨ad, kvs, rfl, n, o, kk, l⟩ := hd
  have o' := dictOf_mono hs o
  rcases valueAt_look kk l k with ⟨v, y, e1, e2, rv⟩ | ⟨e1, e2⟩
  · rw [e2] at hx; cases hx
    refine wpAny_Call_method1_late hbase hline htrees (nm a (v := .ref ad) m1 ?_ hk hl1 hd1)
    refine ⟨"dict", "dict.get", F.plainAttrs_dict, F.slot_dict_get, F.type_dict_get, Heap.DictOf.typeIs (s := St r h tk) o', (o'.mapOf).noDict, ?_⟩
    refine wpAny_dict_get1 (knd := intKind prog w) n (nm a (v := .int k u) m2 ⟨k, _, intKind_is prog w k u, o'.mapOf, ?_⟩ hk hl2 hd2)
    rw [e1]; exact q v rv
  · rw [e2] at hx; cases hx

theorem lenT {l : Value} {ds : List PyData} {Q : Value → Shared → Prop} (hs : Sub Z h) (hl : Rd Z l (.tuple ds)) (hfit : (ds.length : Int) < 2 ^ 63)
    (q : ∀ t tk', Q (.int ds.length t) (St r h tk')) : wpAny (model prog w) A (call (.builtin "len") [l]) Q E (St r h tk) := by
  obtain ⟨a, vs, rfl, il, ra⟩ := hl.untup
  have e := ra.length
  refine PyProof.Rows.len_tuple (s := St r h tk) (isTup_mono hs il) (by rw [List.size_toArray, e]; exact hfit) ?_
  simp only [List.size_toArray, e]; exact q _ _

/-- a slice of a frozen list -/
theorem slF {value slice : Expr} {l : Value} {ds : List PyData} {vl vu : Value} {lo hi : Option Int} {i j : Nat} {Q : Value → Shared → Prop} (a : At h₀ Z₀ Z L Ms h m) (rl : Rd Z l (.list ds)) (pl : IsPart vl lo) (pu : IsPart vu hi) (hle : ds.length ≤ 1000)
    (hp : ∀ its : Array Value, its.size = ds.length → slicePick its lo hi none = ((its.toList.drop i).take j).toArray)
    (q : ∀ l' h' Z', Sub Z Z' → At h₀ Z₀ Z' L Ms h' m → Rd Z' (.ref l') (.list ((ds.drop i).take j)) → Q (.ref l') (St r h' tk))
    (hs : ∀ l, subscripted slice false (.ref l) (.ref h.objs.size) = operate [.ref h.objs.size, .ref l] (getItem (.ref l) (.ref h.objs.size)) := by intro _; with_unfolding_all rfl) :
    wpAny (model prog w) A (subscriptTail value slice l (.ref h.objs.size)) Q E (St r (h.push { cls := .type "slice", data := .fields #[vl, vu, .none] }) tk) := by
  obtain ⟨la, us, rfl, il, ru⟩ := rl.unlist
  have e := ru.length
  refine slL (r := r) (isList_mono a.z il) pl pu ?_ (hs la) (by rw [sizeLine_eq]; simp only [List.size_toArray]; omega)
  rw [hp us.toArray (by simpa using e)]
  obtain ⟨Z1, hs1, a1, e1⟩ := (a.push { cls := .type "slice", data := .fields #[vl, vu, .none] }).frozen { cls := .type "list", data := .seq ((us.toArray.toList.drop i).take j).toArray } rfl
  rw [Heap.size_push] at e1
  refine q _ _ Z1 hs1 a1 (Rd.list e1 ?_)
  have := ((ru.mono hs1).drop i).take j
  simpa using this
end
end Mine

namespace Mine
open PySem PyProof.Rows PySem.Calls
set_option maxRecDepth 100000

local macro_rules | `(tactic| walk_at "lk") => `(tactic| first | assumption | exact up_self | (refine up_ne (by decide) ?_; walk_at "lk"))

/-- what the law's body ends in -/
def Fine (r : Shared) (h : Heap) (fl : Flow) (s' : Shared) : Prop := fl = .ret (.bool true) ∧ ∃ h' tk', s' = St r h' tk' ∧ Sub h h'

/-- what stands around the law's body -/
structure Law (prog : Program) (w : World) (A : Around) (mg mb : Str → Option Value) (h : Heap) (ns : List Int) (vs vM vS : Value) (Cc Co Cf : Addr) : Prop where
  g : Gl mg mb h
  am : Amb A 6 29
  fr : A.frames = some []
  oc : ExcAt mg h "ClashError" Cc
  oo : ExcAt mg h "OccursError" Co
  of : ExcAt mg h "FuelError" Cf
  n1 : Cc ≠ Co
  n2 : Cc ≠ Cf
  n3 : Co ≠ Cf
  hM : mg "_law_MAKERS" = some vM
  rM : Rd h vM (.tuple [.str "fun", .str "pair"])
  hS : mg "_law_SHAPES" = some vS
  rS : Rd h vS (.tuple ((List.range 7).map fun k => .tuple ((shp k).map fun (p : Nat) => PyData.int (p : Int))))
  script : Rd h vs (intsD ns)
  len : ns.length ≤ 63

abbrev lawEnv (h : Heap) (f : Addr) (cd : Value) : Env := envOfC (nameF 18) (scopeF 18) h.objs.size f cd

section
variable {prog : Program} {w : World} {A : Around} {h : Heap} {r : Shared} {mg mb : Str → Option Value} {ns : List Int} {vs vM vS : Value} {Cc Co Cf : Addr} {f : Addr} {cd : Value}

theorem Law.frok {Z h' : Heap} {Ms : List (Addr × Obj)} {m : Str → Option Value} (a : At h h Z (lawEnv h f cd).locals Ms h' m) : FrOk h' [lawEnv h f cd] := by
  intro env he
  rw [List.mem_singleton.mp he]
  obtain ⟨o, es, ep, ho, hdd, _⟩ := a.ns
  exact ⟨by show (scopeF 18).kind ≠ .module; decide, _, o, rfl, ho, fun vs q => by rw [hdd] at q; cases q⟩
theorem Law.free (env : Env) (he : env ∈ [lawEnv h f cd]) (L : Addr) (hL : env.frame = some L) : h.get? L = none := by
  rw [List.mem_singleton.mp he] at hL
  have : h.objs.size = L := Option.some.inj hL
  rw [← this]; exact At.size_none h

theorem canLay_due (L : Int → Int) (mk : Bool) (v u w : Int) (fuel size : Nat) : (dueD L mk v u w fuel size).canLay0 = true := by
  unfold dueD
  split
  · decide +kernel
  · split
    · decide +kernel
    · split
      · decide +kernel
      · split
        · decide +kernel
        · show (PyData.canLay0 (tyD _) && (PyData.canLay0 (tyD _) && (PyData.canLay0 (.int _) && true))) = true
          rw [canLay_tyD]; rfl
theorem depth_due (L : Int → Int) (mk : Bool) (v u w : Int) (fuel size : Nat) : (dueD L mk v u w fuel size).depth ≤ 4 := by
  unfold dueD
  split
  · decide
  · split
    · decide
    · split
      · decide
      · split
        · decide
        · show PyData.depthAll _ + 1 ≤ 4
          have := depthAll_le (k := 3) [tyD (imageT L mk u w), tyD (imageT L mk u w), .int ((size : Int) + 2)] (by
            intro x hx
            rcases List.mem_cons.mp hx with rfl | hx
            · exact Nat.le_trans (depth_lD _) (by decide)
            rcases List.mem_cons.mp hx with rfl | hx
            · exact Nat.le_trans (depth_lD _) (by decide)
            rw [List.mem_singleton.mp hx]; exact Nat.zero_le _)
          omega

theorem lastRes_str {s : Dc} {L : Int → Int} {mk : Bool} {v u w : Int} {n size : Nat} {x : Str} (hx : resStr (lastRes s L v u w n) = some x) : dueD L mk v u w n size = .str x := by
  unfold lastRes at hx
  unfold dueD
  split at hx
  · rename_i c; rw [if_pos c]; cases hx; rfl
  · rename_i c; rw [if_neg c]
    split at hx
    · rename_i c; rw [if_pos c]; cases hx; rfl
    · rename_i c; rw [if_neg c]
      split at hx
      · rename_i c; rw [if_pos c]; cases hx; rfl
      · rename_i c; rw [if_neg c]
        split at hx
        · rename_i c; rw [if_pos c]; cases hx; rfl
        · cases hx
theorem lastRes_ok {s : Dc} {L : Int → Int} {mk : Bool} {v u w : Int} {n size : Nat} {out : Dc} (hx : lastRes s L v u w n = .ok out) :
    out = out2 s L v u w ∧ L v ≠ L u ∧ L v ≠ L w ∧ dueD L mk v u w n size = .list [tyD (imageT L mk u w), tyD (imageT L mk u w), .int ((size : Int) + 2)] := by
  unfold lastRes at hx
  split at hx
  · cases hx
  · rename_i c1
    split at hx
    · cases hx
    · rename_i c2
      split at hx
      · cases hx
      · rename_i c3
        split at hx
        · cases hx
        · rename_i c4
          cases hx
          refine ⟨rfl, c2, c4, ?_⟩
          unfold dueD; rw [if_neg c1, if_neg c2, if_neg c3, if_neg c4]

/-- the last statements -/
theorem stage5 (X : Law prog w A mg mb h ns vs vM vS Cc Co Cf) {Z h' : Heap} {m : Str → Option Value} {tk : Nat} {vled vmk vsd vx vy vg : Value} {Lf : Int → Int} {out : Dc} {b1 b2 b3 : Bool} {v u x : Int} {n : Nat}
    (a : At h h Z (lawEnv h f cd).locals [] h' m) (hled : Z.IsCell (h.objs.size + 2) (some vled)) (rled : Rd Z vled (intsD (ledOf Lf))) (mmk : m "makers" = some vmk) (rmk : Rd Z vmk (.list [.str (mkS b1), .str (mkS b2), .str (mkS b3)]))
    (ms : m "s" = some vsd) (rs : RdD prog w Z Z vsd (dD out)) (hR : R out Lf) (hol : out.length ≤ 5) (mv : IntAt m "v" v) (mu : IntAt m "u" u) (mw : IntAt m "w" x) (mf : IntAt m "fuel" (n : Int)) (hn : n ≤ 5) (hv : 0 ≤ v ∧ v < 5) (hu : 0 ≤ u ∧ u < 5) (hx : 0 ≤ x ∧ x < 5)
    (mx : m "x" = some vx) (rx : Rd Z vx (tyD (xT b1 v x))) (my : m "y" = some vy) (ry : Rd Z vy (tyD (yT b1 u)))
    (mg' : m "got" = some vg) (rg : (∃ o2, lastRes out Lf v u x n = .ok o2 ∧ RdD prog w Z Z vg (dD o2)) ∨ ∃ y t, vg = .str y t ∧ resStr (lastRes out Lf v u x n) = some y) :
    wpAny (model prog w) (A.deeper (lawEnv h f cd)) (execs ((bodyF 18).drop 30) (lawEnv h f cd)) (Fine r h) (fun _ _ => False) (St r h' tk) := by
  have am : Amb (A.deeper (lawEnv h f cd)) 5 26 := X.am.deeper _
  have gz : ∀ {h' : Heap}, Sub h h' → Gl mg mb h' := fun q => X.g.mono q
  have g1 := gz a.keep
  obtain ⟨tv, mv⟩ := mv
  obtain ⟨tu, mu⟩ := mu
  obtain ⟨tw, mw⟩ := mw
  obtain ⟨tf, mf⟩ := mf
  -- the end, for a value that reads as due
  have fin : ∀ Z' h'' m' tk' vg', Sub Z Z' → At h h Z' (lawEnv h f cd).locals [] h'' m' → m' "got" = some vg' → m' "makers" = some vmk → m' "s" = some vsd → m' "v" = some (.int v tv) → m' "u" = some (.int u tu) → m' "w" = some (.int x tw) → m' "fuel" = some (.int (n : Int) tf) →
      Rd Z' vg' (dueD Lf b1 v u x n out.length) → wpAny (model prog w) (A.deeper (lawEnv h f cd)) (execs ((bodyF 18).drop 31) (lawEnv h f cd)) (Fine r h) (fun _ _ => False) (St r h'' tk') := by
    intro Z' h'' m' tk' vg' hz' a' q1 q2 q3 q4 q5 q6 q7 rg'
    have g2 := gz a'.keep
    obtain ⟨f17, e17, fn17⟩ := g2.fn 17 (by decide)
    refine wpAny_execs_cons (wpAny_If (wpAny_isTrue_Compare1 (nm a' (v := vg') q1 (gcall g2.g e17 fn17 (args_cons (ldCell (c := h.objs.size + 2) (by rfl) ((hled.keeps hz').keeps a'.z) (args_cons (nm a' (v := .int v tv) q4 (args_cons (nm a' (v := .int u tu) q5 (args_cons (nm a' (v := .int x tw) q6 (args_cons (Subscript_ (nm a' (v := vmk) q2 (cint (itL (d := .str (mkS b1)) a'.z (rmk.mono hz') (by decide) (by decide) rfl fun y1 r1 => ?_)))))))))))))))))
    refine args_cons (nm a' (v := .int (n : Int) tf) q7 (args_cons (bcall g2.g (g2.miss _ (by decide)) g2.b g2.blen (args_cons (nm a' (v := vsd) q3 (args_nil (lenD a'.z (rs.mono hz' hz') (by simp only [dD, List.length_map]; omega) fun t3 tk3 => ?_)))))))
    have hl : ((dD out).length : Int) = (out.length : Int) := by simp only [dD, List.length_map]
    rw [hl]
    refine args_nil ⟨fun _ e => e, due_spec (L := Lf) g2 fn17 (am.le (by omega) (by omega)) a'.z (rled.mono hz') r1 hv hu hx fun y4 h4 Z4 tk4 gr4 r4 => ?_⟩
    obtain ⟨as1, rd1⟩ := (rg'.mono gr4.z0).mono gr4.z
    obtain ⟨as2, rd2⟩ := r4.mono gr4.z
    refine PySem.SeqAt.compareNe_reads (s := St r h4 tk4) rd1 rd2 (canLay_due ..) (canLay_due ..) ?_ ?_
    · have := depth_due Lf b1 v u x n out.length
      rw [Nat.min_self]
      have := am.units
      omega
    · rw [SeqAt.eqv_refl _ (canLay_due ..)]
      refine trB false rfl (ifF rfl (wpAny_execs_nil (wpAny_execs_cons (wpAny_Return_some (wpAny_Constant_bool ?_)))))
      exact ⟨rfl, h4, tk4, rfl, (a'.call gr4).keep⟩
  rcases rg with ⟨o2, hok, rg⟩ | ⟨y, t, rfl, hstr⟩
  · obtain ⟨rfl, c1, c2, hdue⟩ := lastRes_ok (mk := b1) (size := out.length) hok
    refine wpAny_execs_cons (cutIf true ?_ (fun _ tk2 => ?_) (fun q => by cases q))
    · exact wpAny_isTrue_value (bcall g1.g (g1.miss _ (by decide)) g1.b g1.bisinstance (args_cons (nm a (v := vg) mg' (args_cons (bname g1.g (g1.miss _ (by decide)) g1.b g1.bdict (args_nil (isiD a.z rg (trB true rfl ⟨rfl, _, rfl⟩))))))))
    obtain ⟨f7, e7, fn7⟩ := g1.fn 7 (by decide)
    have hl2 : (out2 out Lf v u x).length ≤ 1000000 := by rw [out2_length]; omega
    refine wpAny_execs_cons (asg (List_ (args_cons (gcall g1.g e7 fn7 (args_cons (nm a (v := vx) mx (args_cons (nm a (v := vg) mg' (args_nil ⟨fun _ e => e, apply_spec g1 fn7 (am.le (by omega) (by omega)) a.z rx (rg.mono a.z (Sub.refl _)) hl2 (fun i => by rw [enc_len]; have := small_x hR b1 c1 (w := x) i; omega) fun p3 h3 Z3 tk3 gr3 r3 => ?_⟩)))))))))
    have a3 := a.call gr3
    have g3 := gz a3.keep
    obtain ⟨f7', e7', fn7'⟩ := g3.fn 7 (by decide)
    have rg3 := rg.mono gr3.z0 gr3.z0
    refine args_cons (gcall g3.g e7' fn7' (args_cons (nm a3 (v := vy) my (args_cons (nm a3 (v := vg) mg' (args_nil ⟨fun _ e => e, apply_spec g3 fn7' (am.le (by omega) (by omega)) a3.z (ry.mono gr3.z0) (rg3.mono a3.z (Sub.refl _)) hl2 (fun i => by rw [enc_len]; have := small_y hR b1 c1 (w := x) i; omega) fun p4 h4 Z4 tk4 gr4 r4 => ?_⟩))))))
    have a4 := a3.call gr4
    have g4 := gz a4.keep
    refine args_cons (bcall g4.g (g4.miss _ (by decide)) g4.b g4.blen (args_cons (nm a4 (v := vg) mg' (args_nil (lenD a4.z (rg3.mono gr4.z0 gr4.z0) (by simp only [dD, List.length_map]; omega) fun t5 tk5 => ?_)))))
    rw [last_x hR b1 v u x c1 c2] at r3
    rw [last_y hR b1 v u x c1 c2] at r4
    refine args_nil (lstF (r := r) a4 (.cons (r3.mono gr4.z0) (.cons r4 (.one (.int _ _)))) fun l6 h6 Z6 hs6 a6 r6 => sto (r := r) a6 fun h7 a7 => wpAny_execs_nil ?_)
    refine fin Z6 h7 _ _ (.ref l6) (fun b o e => hs6 b o (gr4.z0 b o (gr3.z0 b o e))) a7 (by walk_at "lk") (by walk_at "lk") (by walk_at "lk") (by walk_at "lk") (by walk_at "lk") (by walk_at "lk") (by walk_at "lk") ?_
    rw [hdue]
    have hl : ((dD (out2 out Lf v u x)).length : Int) = (out.length : Int) + 2 := by simp only [dD, List.length_map, out2_length]; omega
    rw [← hl]; exact r6
  · refine wpAny_execs_cons (cutIf false ?_ (fun q => by cases q) (fun _ tk2 => ?_))
    · exact wpAny_isTrue_value (bcall g1.g (g1.miss _ (by decide)) g1.b g1.bisinstance (args_cons (nm a (v := .str y t) mg' (args_cons (bname g1.g (g1.miss _ (by decide)) g1.b g1.bdict (args_nil (PySem.IsiPair.str_dict (trB false rfl ⟨rfl, _, rfl⟩))))))))
    refine wpAny_execs_nil (fin Z h' m tk2 _ (Sub.refl _) a mg' mmk ms mv mu mw mf ?_)
    rw [lastRes_str hstr]; exact .str _ _
end
end Mine

namespace Mine
open PySem PyProof.Rows PySem.Calls
set_option maxRecDepth 100000

local macro_rules | `(tactic| walk_at "lk") => `(tactic| first | assumption | exact up_self | (refine up_ne (by decide) ?_; walk_at "lk"))

section
variable {prog : Program} {w : World} {A : Around} {E : Value → Shared → Prop} {h : Heap} {r : Shared} {mg mb : Str → Option Value} {ns : List Int} {vs vM vS : Value} {Cc Co Cf : Addr} {f : Addr} {cd : Value}

/-- _law_cell(script, i, k) of written figures -/
theorem cellE (X : Law prog w A mg mb h ns vs vM vS Cc Co Cf) {Z h' : Heap} {Ms : List (Addr × Obj)} {m : Str → Option Value} {tk : Nat} {i : Nat} {kk : Int} {p p1 p2 p3 pos : Pos} {k2 k3 : Nat} {Q : Value → Shared → Prop}
    (a : At h h Z (lawEnv h f cd).locals Ms h' m) (hsc : Z.IsCell (h.objs.size + 1) (some vs)) (hi : i ≤ 1000) (hk : 0 < kk)
    (q : ∀ t h'' tk'', At h h Z (lawEnv h f cd).locals Ms h'' m → Q (.int (cellN ns i kk) t) (St r h'' tk'')) :
    wpAny (model prog w) (A.deeper (lawEnv h f cd)) (eval (.Call (.Name "_law_cell" p) [.Name "script" p1, .Constant (.int (i : Int)) k2 p2, .Constant (.int kk) k3 p3] [] pos) (lawEnv h f cd)) Q E (St r h' tk) := by
  have am : Amb (A.deeper (lawEnv h f cd)) 5 26 := X.am.deeper _
  have g1 := X.g.mono a.keep
  obtain ⟨f12, e12, fn12⟩ := g1.fn 12 (by decide)
  exact gcall g1.g e12 fn12 (args_cons (ldCell (c := h.objs.size + 1) (by rfl) (hsc.keeps a.z) (args_cons (cint (args_cons (cint (args_nil ⟨fun _ e => e, cell_spec (i := i) g1 fn12 (am.le (by omega) (by omega)) a.z (X.script.mono a.z0) X.len hi hk fun t h2 tk2 gr => q t h2 tk2 (a.call gr)⟩)))))))
theorem cellA (X : Law prog w A mg mb h ns vs vM vS Cc Co Cf) {Z h' : Heap} {Ms : List (Addr × Obj)} {m : Str → Option Value} {tk : Nat} {i : Nat} {kk : Int} {x : Str} {px p p1 p2 p3 pos pos' : Pos} {k2 k3 : Nat} {Q : Flow → Shared → Prop}
    (a : At h h Z (lawEnv h f cd).locals Ms h' m) (hsc : Z.IsCell (h.objs.size + 1) (some vs)) (hi : i ≤ 1000) (hk : 0 < kk)
    (q : ∀ t h'' tk'', At h h Z (lawEnv h f cd).locals Ms h'' (up m x (.int (cellN ns i kk) t)) → Q .next (St r h'' tk''))
    (hl : (lawEnv h f cd).kindOf x = some .local := by rfl)
    (hs : swapsWith (.Call (.Name "_law_cell" p) [.Name "script" p1, .Constant (.int (i : Int)) k2 p2, .Constant (.int kk) k3 p3] [] pos) (some (.Name x px)) pos'.line (lawEnv h f cd) = pure false := by rfl) :
    wpAny (model prog w) (A.deeper (lawEnv h f cd)) (exec (.Assign [.Name x px] (.Call (.Name "_law_cell" p) [.Name "script" p1, .Constant (.int (i : Int)) k2 p2, .Constant (.int kk) k3 p3] [] pos) pos') (lawEnv h f cd)) Q E (St r h' tk) :=
  asg (cellE X a hsc hi hk fun t h2 tk2 a2 => sto (r := r) a2 (fun h3 a3 => q t h3 _ a3) (by rfl) hl) hs

set_option maxHeartbeats 8000000 in
theorem stage4 (X : Law prog w A mg mb h ns vs vM vS Cc Co Cf) {Z h' : Heap} {m : Str → Option Value} {tk : Nat} {vled vmk vsd : Value} {Lf : Int → Int} {out : Dc} {b1 b2 b3 : Bool}
    (a : At h h Z (lawEnv h f cd).locals [] h' m) (hsc : Z.IsCell (h.objs.size + 1) (some vs)) (hled : Z.IsCell (h.objs.size + 2) (some vled)) (rled : Rd Z vled (intsD (ledOf Lf))) (mmk : m "makers" = some vmk) (rmk : Rd Z vmk (.list [.str (mkS b1), .str (mkS b2), .str (mkS b3)]))
    (ms : m "s" = some vsd) (rs : RdD prog w Z Z vsd (dD out)) (hR : R out Lf) (hol : out.length ≤ 5) :
    wpAny (model prog w) (A.deeper (lawEnv h f cd)) (execs ((bodyF 18).drop 23) (lawEnv h f cd)) (Fine r h) (fun _ _ => False) (St r h' tk) := by
  have am : Amb (A.deeper (lawEnv h f cd)) 5 26 := X.am.deeper _
  have gz : ∀ {h' : Heap}, Sub h h' → Gl mg mb h' := fun q => X.g.mono q
  refine wpAny_execs_cons (cellA (i := 18) X a hsc (by decide) (by decide) fun tv h1 tk1 a1 => ?_)
  refine wpAny_execs_cons (cellA (i := 19) X a1 hsc (by decide) (by decide) fun tu h2 tk2 a2 => ?_)
  refine wpAny_execs_cons (cellA (i := 20) X a2 hsc (by decide) (by decide) fun tw h3 tk3 a3 => ?_)
  refine wpAny_execs_cons (cellA (i := 21) X a3 hsc (by decide) (by decide) fun tf h4 tk4 a4 => ?_)
  obtain ⟨hv0, hv5⟩ := cellN_range ns 18 (k := 5) (by decide)
  obtain ⟨hu0, hu5⟩ := cellN_range ns 19 (k := 5) (by decide)
  obtain ⟨hx0, hx5⟩ := cellN_range ns 20 (k := 5) (by decide)
  obtain ⟨hf0, hf5⟩ := cellN_range ns 21 (k := 5) (by decide)
  generalize cellN ns 18 5 = v at a1 a2 a3 a4 hv0 hv5
  generalize cellN ns 19 5 = u at a2 a3 a4 hu0 hu5
  generalize cellN ns 20 5 = x at a3 a4 hx0 hx5
  obtain ⟨n, hnf⟩ : ∃ n : Nat, cellN ns 21 5 = (n : Int) := ⟨(cellN ns 21 5).toNat, by omega⟩
  rw [hnf] at a4 hf0 hf5
  -- x
  refine wpAny_execs_cons (asg (List_ (args_cons (Tuple_ (args_cons (cstr (args_cons (nm a4 (v := .int v tv) (by walk_at "lk") (args_nil (tupF (r := r) a4 (.cons (.str "var" _) (.cons (.int v tv) .nil)) fun l5 h5 Z5 hs5 a5 r5 => ?_))))))))))
  refine args_cons (Tuple_ (args_cons (cstr (args_cons (nm a5 (v := .int x tw) (by walk_at "lk") (args_nil (tupF (r := r) a5 (.cons (.str "var" _) (.cons (.int x tw) .nil)) fun l6 h6 Z6 hs6 a6 r6 => ?_)))))))
  have hz6 : Sub Z Z6 := fun b o e => hs6 b o (hs5 b o e)
  refine args_cons (Tuple_ (args_cons (Subscript_ (nm a6 (v := vmk) (by walk_at "lk") (cint (itL (d := .str (mkS b1)) a6.z (rmk.mono hz6) (by decide) (by decide) rfl fun y7 r7 => args_cons (cint (args_nil (tupF (r := r) a6 (.cons r7 (.cons (.int 0 _) .nil)) fun l8 h8 Z8 hs8 a8 r8 => ?_)))))))))
  refine args_nil (lstF (r := r) a8 (.cons ((r5.mono hs6).mono hs8) (.cons (r6.mono hs8) (.one r8))) fun lx h9 Z9 hs9 a9 rx => sto (r := r) a9 fun h10 a10 => ?_)
  have rx : Rd Z9 (.ref lx) (tyD (xT b1 v x)) := rx
  have hz9 : Sub Z Z9 := fun b o e => hs9 b o (hs8 b o (hz6 b o e))
  clear r5 r6 r7 r8
  -- y
  refine wpAny_execs_cons (asg (List_ (args_cons (Tuple_ (args_cons (cstr (args_cons (nm a10 (v := .int u tu) (by walk_at "lk") (args_nil (tupF (r := r) a10 (.cons (.str "var" _) (.cons (.int u tu) .nil)) fun l11 h11 Z11 hs11 a11 r11 => ?_))))))))))
  refine args_cons (Tuple_ (args_cons (cstr (args_cons (nm a11 (v := .int u tu) (by walk_at "lk") (args_nil (tupF (r := r) a11 (.cons (.str "var" _) (.cons (.int u tu) .nil)) fun l12 h12 Z12 hs12 a12 r12 => ?_)))))))
  refine args_cons (Tuple_ (args_cons (cstr (args_cons (cint (args_nil (tupF (r := r) a12 (.cons (.str "pair" _) (.cons (.int 0 _) .nil)) fun l13 h13 Z13 hs13 a13 r13 => ?_)))))))
  refine args_cons (Tuple_ (args_cons (cstr (args_cons (cint (args_nil (tupF (r := r) a13 (.cons (.str "int" _) (.cons (.int 0 _) .nil)) fun l14 h14 Z14 hs14 a14 r14 => ?_)))))))
  have hz14 : Sub Z9 Z14 := fun b o e => hs14 b o (hs13 b o (hs12 b o (hs11 b o e)))
  refine args_cons (Tuple_ (args_cons (Subscript_ (nm a14 (v := vmk) (by walk_at "lk") (cint (itL (d := .str (mkS b1)) a14.z ((rmk.mono hz9).mono hz14) (by decide) (by decide) rfl fun y15 r15 => args_cons (cint (args_nil (tupF (r := r) a14 (.cons r15 (.cons (.int 0 _) .nil)) fun l16 h16 Z16 hs16 a16 r16 => ?_)))))))))
  refine args_nil (lstF (r := r) a16 (.cons ((((r11.mono hs12).mono hs13).mono hs14).mono hs16) (.cons (((r12.mono hs13).mono hs14).mono hs16) (.cons ((r13.mono hs14).mono hs16) (.cons (r14.mono hs16) (.one r16))))) fun ly h17 Z17 hs17 a17 ry => sto (r := r) a17 fun h18 a18 => ?_)
  have ry : Rd Z17 (.ref ly) (tyD (yT b1 u)) := ry
  have hz17' : Sub Z9 Z17 := fun b o e => hs17 b o (hs16 b o (hz14 b o e))
  have hz17 : Sub Z Z17 := fun b o e => hz17' b o (hz9 b o e)
  have rx := rx.mono hz17'
  clear r11 r12 r13 r14 r15 r16
  have rs17 := rs.mono hz17 hz17
  have hds : ∀ p ∈ out, p.2.len ≤ 1000 := by
    intro p hp
    obtain ⟨i, hi⟩ := List.getElem?_of_mem hp
    obtain ⟨y, hy⟩ := hR.look_var (take_new hR.nodup (k := p.1) (T := p.2) hi).1
    rw [hy]; exact Nat.le_of_ble_eq_true rfl
  have hfr1 := Around.frames_deeper (env := lawEnv h f cd) X.fr
  -- the call
  refine wpAny_execs_cons (wpAny_If (wpAny_isTrue_Compare1 (cellE (i := 22) X a18 (hsc.keeps hz17) (by decide) (by decide) fun t19 h19 tk19 a19 => cint (eq_int (trB (decide (cellN ns 22 2 = 0)) (by rw [Bool.beq_eq_decide_eq]) ?_)))))
  have g19 := gz a19.keep
  obtain ⟨f16, e16, fn16⟩ := g19.fn 16 (by decide)
  have flown : ∀ {h20 : Heap}, (∀ b o, h19.get? b = some o → (∀ env ∈ [lawEnv h f cd], env.frame ≠ some b) → h20.get? b = some o) → h19.UpToSlots h20 → At h h Z17 (lawEnv h f cd).locals [] h20 _ := fun {h20} k1 k2 =>
    a19.flown (fun b o e ne => k1 b o e fun env he q => by
      rw [List.mem_singleton.mp he] at q
      exact ne (Option.some.inj q).symm) k2
  by_cases hc : cellN ns 22 2 = 0
  · refine ifT (decide_eq_true hc) (wpAny_execs_cons (asg (gcall g19.g e16 fn16 (args_cons (nm a19 (v := .ref lx) (by walk_at "lk") (args_cons (nm a19 (v := .ref ly) (by walk_at "lk") (args_cons (nm a19 (v := vsd) (by walk_at "lk") (args_cons (nm a19 (v := .int (n : Int) tf) (by walk_at "lk") (args_nil ⟨fun _ e => e, ?_⟩))))))))))))
    refine end_spec (Y := h) g19 fn16 am hfr1 (Law.frok a19) a19.keep Law.free X.g.g X.oc X.oo X.of X.n1 X.n2 X.n3 a19.z rx ry rs17 hR.nodup (by omega) hds (by omega) (safe_xy hR b1 v u x n) (fun vg o2 h20 Z20 tk20 hr gr rg => ?_) (fun y t h20 tk20 hr k1 k2 => ?_)
    · rw [last_xy hR] at hr
      have a20 := a19.call gr
      refine sto (r := r) a20 fun h21 a21 => wpAny_execs_nil ?_
      have hz20 : Sub Z Z20 := fun b o e => gr.z0 b o (hz17 b o e)
      exact stage5 X a21 (hled.keeps hz20) (rled.mono hz20) (by walk_at "lk") (rmk.mono hz20) (by walk_at "lk") (rs17.mono gr.z0 gr.z0) hR hol ⟨_, by walk_at "lk"⟩ ⟨_, by walk_at "lk"⟩ ⟨_, by walk_at "lk"⟩ ⟨_, by walk_at "lk"⟩ (by omega) ⟨hv0, hv5⟩ ⟨hu0, hu5⟩ ⟨hx0, hx5⟩ (by walk_at "lk") (rx.mono gr.z0) (by walk_at "lk") (ry.mono gr.z0) (by walk_at "lk") (.inl ⟨o2, hr, rg⟩)
    · rw [last_xy hR] at hr
      have a20 := flown k1 k2
      refine sto (r := r) a20 fun h21 a21 => wpAny_execs_nil ?_
      exact stage5 X a21 (hled.keeps hz17) (rled.mono hz17) (by walk_at "lk") (rmk.mono hz17) (by walk_at "lk") rs17 hR hol ⟨_, by walk_at "lk"⟩ ⟨_, by walk_at "lk"⟩ ⟨_, by walk_at "lk"⟩ ⟨_, by walk_at "lk"⟩ (by omega) ⟨hv0, hv5⟩ ⟨hu0, hu5⟩ ⟨hx0, hx5⟩ (by walk_at "lk") rx (by walk_at "lk") ry (by walk_at "lk") (.inr ⟨y, t, rfl, hr⟩)
  · refine ifF (decide_eq_false hc) (wpAny_execs_cons (asg (gcall g19.g e16 fn16 (args_cons (nm a19 (v := .ref ly) (by walk_at "lk") (args_cons (nm a19 (v := .ref lx) (by walk_at "lk") (args_cons (nm a19 (v := vsd) (by walk_at "lk") (args_cons (nm a19 (v := .int (n : Int) tf) (by walk_at "lk") (args_nil ⟨fun _ e => e, ?_⟩))))))))))))
    refine end_spec (Y := h) g19 fn16 am hfr1 (Law.frok a19) a19.keep Law.free X.g.g X.oc X.oo X.of X.n1 X.n2 X.n3 a19.z ry rx rs17 hR.nodup (by omega) hds (by omega) (safe_yx hR b1 v u x n) (fun vg o2 h20 Z20 tk20 hr gr rg => ?_) (fun y t h20 tk20 hr k1 k2 => ?_)
    · rw [last_yx hR] at hr
      have a20 := a19.call gr
      refine sto (r := r) a20 fun h21 a21 => wpAny_execs_nil ?_
      have hz20 : Sub Z Z20 := fun b o e => gr.z0 b o (hz17 b o e)
      exact stage5 X a21 (hled.keeps hz20) (rled.mono hz20) (by walk_at "lk") (rmk.mono hz20) (by walk_at "lk") (rs17.mono gr.z0 gr.z0) hR hol ⟨_, by walk_at "lk"⟩ ⟨_, by walk_at "lk"⟩ ⟨_, by walk_at "lk"⟩ ⟨_, by walk_at "lk"⟩ (by omega) ⟨hv0, hv5⟩ ⟨hu0, hu5⟩ ⟨hx0, hx5⟩ (by walk_at "lk") (rx.mono gr.z0) (by walk_at "lk") (ry.mono gr.z0) (by walk_at "lk") (.inl ⟨o2, hr, rg⟩)
    · rw [last_yx hR] at hr
      have a20 := flown k1 k2
      refine sto (r := r) a20 fun h21 a21 => wpAny_execs_nil ?_
      exact stage5 X a21 (hled.keeps hz17) (rled.mono hz17) (by walk_at "lk") (rmk.mono hz17) (by walk_at "lk") rs17 hR hol ⟨_, by walk_at "lk"⟩ ⟨_, by walk_at "lk"⟩ ⟨_, by walk_at "lk"⟩ ⟨_, by walk_at "lk"⟩ (by omega) ⟨hv0, hv5⟩ ⟨hu0, hu5⟩ ⟨hx0, hx5⟩ (by walk_at "lk") rx (by walk_at "lk") ry (by walk_at "lk") (.inr ⟨y, t, rfl, hr⟩)
end
end Mine

namespace Mine
open PySem PyProof.Rows PySem.Calls
set_option maxRecDepth 100000

local macro_rules | `(tactic| walk_at "lk") => `(tactic| first | assumption | exact up_self | (refine up_ne (by decide) ?_; walk_at "lk"))

section
variable {prog : Program} {w : World} {A : Around} {E : Value → Shared → Prop} {h : Heap} {r : Shared} {mg mb : Str → Option Value} {ns : List Int} {vs vM vS : Value} {Cc Co Cf : Addr} {f : Addr} {cd : Value}

theorem FnAt.keep {h h1 h2 : Heap} {f : Addr} {name : Str} {params : Arguments} {body : List Stmt} {scope : Scope} (fn : FnAt h f name params body scope) (k1 : Sub h h1) (k2 : Sub h h2) (o : Obj) (e : h1.get? f = some o) : h2.get? f = some o := by
  obtain ⟨o', _, _, _, _, _, e', _⟩ := fn
  rw [k1 f o' e'] at e
  rw [← Option.some.inj e]; exact k2 f o' e'
/-- range(N) opened over a heap -/
theorem it_range1 {A : Around} {env : Env} {Z h : Heap} {tk k1 : Nat} {N : Int} {p p1 pos : Pos} (g : Gl mg mb h) (hh : A.handled = none) (h0 : 0 ≤ N) (h1 : N < 2 ^ 62)
    (hgl : env.globals = mainGlobals := by rfl) (hbl : env.builtins = builtinsNs := by rfl) (hk : env.scope.kind = .function := by rfl) (hxk : env.kindOf "range" = some .globalImplicit := by rfl) (he : starEach [.Constant (.int N) k1 p1] env = (false, eval (.Constant (.int N) k1 p1) env) :: starEach [] env := by rfl) (hp : (backTo pos (starEach [] env)).any (·.1) = false := by rfl) :
    wpAny (model prog w) A (eval (.Call (.Name "range" p) [.Constant (.int N) k1 p1] [] pos) env) (fun xv s₁ => wpAny (model prog w) A (pyIter xv) (ItOn prog w A r Z h N.toNat fun i u => ∃ t, u = .int (i : Int) t) E s₁) E (St r h tk) := by
  refine tcall (r := r) (by rw [hgl]; exact g.g) (g.miss _ (by decide)) (by rw [hbl]; exact g.b) g.brange ?_ he hp hk hxk
  refine args_cons (cint (args_nil (call_range_1 (s := St r h (tk + 1)) ?_)))
  refine wpAny_mono (it_rangeAt (E := E) (r := r) (Z := Z) (h := h) (lo := 0) (hi := N) hh (push_sub h _) (by rw [Heap.size_push]; exact Nat.le_succ _) (IsRange.new ..) (by decide) (by decide) (by omega) h1) (fun it s₂ q => ?_) fun _ _ q => q
  have e1 : (N - 0).toNat = N.toNat := by simp
  have e2 : (fun (i : Nat) (u : Value) => ∃ t, u = Value.int (0 + (i : Int)) t) = fun (i : Nat) (u : Value) => ∃ t, u = Value.int (i : Int) t := by funext i u; simp
  rw [e1, e2] at q
  exact q
theorem it_range2 {A : Around} {env : Env} {Z h : Heap} {tk k1 k2 : Nat} {N M : Int} {p p1 p2 pos : Pos} (g : Gl mg mb h) (hh : A.handled = none) (h0 : 0 ≤ N) (h1 : N < 2 ^ 62) (h0' : 0 ≤ M) (h1' : M < 2 ^ 62)
    (hgl : env.globals = mainGlobals := by rfl) (hbl : env.builtins = builtinsNs := by rfl) (hk : env.scope.kind = .function := by rfl) (hxk : env.kindOf "range" = some .globalImplicit := by rfl) (he : starEach [.Constant (.int N) k1 p1, .Constant (.int M) k2 p2] env = (false, eval (.Constant (.int N) k1 p1) env) :: starEach [.Constant (.int M) k2 p2] env := by rfl) (hp : (backTo pos (starEach [.Constant (.int M) k2 p2] env)).any (·.1) = false := by rfl) :
    wpAny (model prog w) A (eval (.Call (.Name "range" p) [.Constant (.int N) k1 p1, .Constant (.int M) k2 p2] [] pos) env) (fun xv s₁ => wpAny (model prog w) A (pyIter xv) (ItOn prog w A r Z h (M - N).toNat fun i u => ∃ t, u = .int (N + (i : Int)) t) E s₁) E (St r h tk) := by
  refine tcall (r := r) (by rw [hgl]; exact g.g) (g.miss _ (by decide)) (by rw [hbl]; exact g.b) g.brange ?_ he hp hk hxk
  refine args_cons (cint (args_cons (cint (args_nil (call_range_2 (s := St r h (tk + 1 + 1)) ?_)))))
  exact it_rangeAt (E := E) (r := r) (Z := Z) (h := h) (lo := N) (hi := M) hh (push_sub h _) (by rw [Heap.size_push]; exact Nat.le_succ _) (IsRange.new ..) (by omega) h1 (by omega) h1'

set_option maxHeartbeats 8000000 in
theorem stage3 (X : Law prog w A mg mb h ns vs vM vS Cc Co Cf) {Z h' : Heap} {m : Str → Option Value} {tk : Nat} {vled vmk vsd vd0 va vb : Value} {Lf : Int → Int} {out d : Dc} {b1 b2 b3 : Bool} {o3 : Obj} {S : Sk} {lf rf : Nat → Int}
    (a : At h h Z (lawEnv h f cd).locals [(h.objs.size + 3, o3)] h' m) (ho3 : o3.data = .cell none) (hsc : Z.IsCell (h.objs.size + 1) (some vs)) (hled : Z.IsCell (h.objs.size + 2) (some vled)) (rled : Rd Z vled (intsD (ledOf Lf))) (mmk : m "makers" = some vmk) (rmk : Rd Z vmk (.list [.str (mkS b1), .str (mkS b2), .str (mkS b3)]))
    (ms : m "s" = some vsd) (rs : RdD prog w Z Z vsd (dD out)) (hR : R out Lf) (hol : out.length ≤ 5) (md : m "s0" = some vd0) (rd : RdD prog w Z Z vd0 (dD d)) (up : Up d) (hdl : d.length ≤ 5) (ma : m "a" = some va) (ra : Rd Z va (tyD (S.fill lf))) (mb' : m "b" = some vb) (rb : Rd Z vb (tyD (S.fill rf)))
    (hS : S.size ≤ 7) (hl5 : Ok5 lf) (hr5 : Ok5 rf) (hLf : Lf = (S.pairs lf rf).foldl step (lead d)) :
    wpAny (model prog w) (A.deeper (lawEnv h f cd)) (execs ((bodyF 18).drop 19) (lawEnv h f cd)) (Fine r h) (fun _ _ => False) (St r h' tk) := by
  have am : Amb (A.deeper (lawEnv h f cd)) 5 26 := X.am.deeper _
  have gz : ∀ {h' : Heap}, Sub h h' → Gl mg mb h' := fun q => X.g.mono q
  have hfr1 := Around.frames_deeper (env := lawEnv h f cd) X.fr
  obtain ⟨ou, hu1, hu2, hu3, hu4⟩ := unify_law (S := S) (f := rf) (g := lf) up.R hr5 hl5 500 (by omega) (by omega)
  have hker := Ker.law S lf rf (lead d)
  rw [← hLf] at hker
  generalize (S.pairs rf lf).foldl step (lead d) = L' at hu3 hker
  have hds : ∀ p ∈ d, p.2.len ≤ 1000 := by
    intro p hp
    obtain ⟨i, hi⟩ := List.getElem?_of_mem hp
    obtain ⟨y, hy⟩ := up.R.look_var (take_new up.nodup (k := p.1) (T := p.2) hi).1
    rw [hy]; exact Nat.le_of_ble_eq_true rfl
  have hul : ou.length ≤ 5 := by have := hu3.count; omega
  -- r
  have g1 := gz a.keep
  obtain ⟨f16, e16, fn16⟩ := g1.fn 16 (by decide)
  refine wpAny_execs_cons (asg (gcall g1.g e16 fn16 (args_cons (nm a (v := vb) mb' (args_cons (nm a (v := va) ma (args_cons (nm a (v := vd0) md (args_cons (cint (args_nil ⟨fun _ e => e, ?_⟩)))))))))))
  refine end_spec (n := 500) (Y := h) g1 fn16 am hfr1 (Law.frok a) a.keep Law.free X.g.g X.oc X.oo X.of X.n1 X.n2 X.n3 a.z rb ra rd up.nodup (by omega) hds (by omega) hu2 (fun vr o2 h2 Z2 tk2 hr gr rr => ?_) (fun y t h20 tk20 hr k1 k2 => by rw [hu1] at hr; cases hr)
  rw [hu1] at hr
  cases hr
  have a2 := a.call gr
  refine stCell (r := r) (env := lawEnv h f cd) a2 (by rfl) ho3 fun h3 o3' ho3' a3 => ?_
  obtain ⟨Z4, hs4, a4, e4⟩ := a3.freezeHead
  have hr4 : Z4.IsCell (h.objs.size + 3) (some vr) := ⟨o3', e4, ho3'⟩
  have rr := rr.mono hs4 hs4
  have hz4 : Sub Z Z4 := fun b o e => hs4 b o (gr.z0 b o e)
  clear a3 a2
  have g4 := gz a4.keep
  -- isinstance
  refine wpAny_execs_cons (cutIf false ?_ (fun q => by cases q) (fun _ tk5 => ?_))
  · exact wpAny_isTrue_Not (wpAny_isTrue_value (bcall g4.g (g4.miss _ (by decide)) g4.b g4.bisinstance (args_cons (ldCell (c := h.objs.size + 3) (by rfl) (hr4.keeps a4.z) (args_cons (bname g4.g (g4.miss _ (by decide)) g4.b g4.bdict (args_nil (isiD a4.z rr (trB true rfl ⟨rfl, _, rfl⟩)))))))))
  -- images
  refine wpAny_execs_nil (wpAny_execs_cons (compA (r := r) (n := 5) (P := fun i u => ∃ t, u = .int (i : Int) t) a4 (by omega) (by rfl) (fun i => some (tyD (.var (L' (i : Int))))) (it_range1 (N := 5) g4 am.hh (by decide) (by decide)) ?_ ?_))
  · rintro i v C Z' T' h'' m' tk' hi ⟨ti, rfl⟩ hz' a' mx
    have g5 := gz (fun b o e => a'.keep b o (a4.keep b o e))
    obtain ⟨f7, e7, fn0⟩ := X.g.fn 7 (by decide)
    have fn7 := fn0.mono fun b o e => a'.keep b o (a4.keep b o e)
    refine turn_plain (d0 := tyD (.var (L' (i : Int)))) (Ok := fun y d s₄ => ∃ h4 Z4 tk4 m4, s₄ = St r h4 tk4 ∧ Sub Z' Z4 ∧ At _ _ Z4 C T' h4 m4 ∧ Rd Z4 y d) rfl ?_
    refine gcall g5.g e7 fn7 (args_cons (List_ (args_cons (Tuple_ (args_cons (cstr (args_cons (nm a' (v := .int (i : Int) ti) mx (args_nil (tupF (r := r) a' (.cons (.str "var" _) (.cons (.int (i : Int) ti) .nil)) fun l6 h6 Z6 hs6 a6 r6 => args_nil (lstF (r := r) a6 (.one r6) fun l7 h7 Z7 hs7 a7 r7 => ?_)))))))))))
    have r7 : Rd Z7 (.ref l7) (tyD (.var (i : Int))) := r7
    have hz7 : Sub Z4 Z7 := fun b o e => hs7 b o (hs6 b o (hz' b o e))
    refine args_cons (ldCell (c := h.objs.size + 3) (by rfl) ((hr4.keeps hz7).keeps a7.z) (args_nil ⟨fun o e => ?_, ?_⟩))
    · exact fn0.keep (fun b o e => a'.keep b o (a4.keep b o e)) (fun b o e => a7.keep b o (a4.keep b o e)) o e
    have g7 := gz (fun b o e => a7.keep b o (a4.keep b o e))
    refine apply_spec g7 (fn0.mono fun b o e => a7.keep b o (a4.keep b o e)) (am.le (by omega) (by omega)) a7.z r7 ((rr.mono hz7 hz7).mono a7.z (Sub.refl _)) (by omega) (fun j => by rw [enc_len, hu3.len_iter]; exact Nat.le_of_ble_eq_true rfl) fun y8 h8 Z8 tk8 gr8 r8 => ?_
    rw [hu3.apply] at r8
    exact ⟨h8, Z8, tk8, _, rfl, fun b o e => gr8.z0 b o (hs7 b o (hs6 b o e)), a7.call gr8, r8⟩
  intro vim h5 Z5 tk5' hs5 a5 rim
  have himg : ∀ {v : Int}, 0 ≤ v → v < 5 → ((List.range 5).filterMap fun (i : Nat) => some (tyD (.var (L' (i : Int)))))[v.toNat]? = some (tyD (.var (L' v))) := by
    intro v h0 h5
    have : v = 0 ∨ v = 1 ∨ v = 2 ∨ v = 3 ∨ v = 4 := by omega
    rcases this with rfl | rfl | rfl | rfl | rfl <;> rfl
  have hz5 : Sub Z Z5 := fun b o e => hs5 b o (hz4 b o e)
  have rled5 := rled.mono hz5
  have hled5 := hled.keeps hz5
  have g5 := gz a5.keep
  -- the double loop
  refine wpAny_execs_cons (wpAny_For (tcall g5.g (g5.miss _ (by decide)) g5.b g5.brange (args_cons (cint (args_nil (for_range (r := r) (T := []) (Ms := []) am.hh (by decide) (by decide)
    (fun i Z' Ms' m' => Ms' = [] ∧ m' "images" = some vim ∧ m' "makers" = some vmk ∧ m' "s" = some vsd) a5 ⟨rfl, by walk_at "lk", by walk_at "lk", by walk_at "lk"⟩ ?_ ?_))))))
  · rintro i ti Z' Ms' T' h'' m' tk' hi hz' ⟨rfl, q1, q2, q3⟩ a'
    have hi : i < 5 := hi
    have g6 := gz a'.keep
    refine wpAny_execs_cons (wpAny_For (tcall g6.g (g6.miss _ (by decide)) g6.b g6.brange (args_cons (nm a' (v := .int (i : Int) ti) (by walk_at "lk") (args_nil (for_range (r := r) (T := T') (Ms := []) am.hh (by omega) (by omega)
      (fun j Z'' Ms'' m'' => Ms'' = [] ∧ m'' "images" = some vim ∧ m'' "makers" = some vmk ∧ m'' "s" = some vsd ∧ m'' "v" = some (.int (i : Int) ti)) a' ⟨rfl, by walk_at "lk", by walk_at "lk", by walk_at "lk", by walk_at "lk"⟩ ?_ ?_))))))
    · rintro j tj Z'' Ms'' T'' h3 m'' tk'' hj hz'' ⟨rfl, p1, p2, p3, p4⟩ a''
      have hj : j < 5 := by omega
      have hzz : Sub Z5 Z'' := fun b o e => hz'' b o (hz' b o e)
      refine wpAny_execs_cons (cutIf false ?_ (fun q => by cases q) (fun _ tk7 => ?_))
      · refine wpAny_isTrue_Compare1 (wpAny_Compare1 (Subscript_ (nm a'' (v := vim) (by walk_at "lk") (nm a'' (v := .int (i : Int) ti) (by walk_at "lk") (itL (d := tyD (.var (L' i))) a''.z (rim.mono hzz) (by omega) (by omega) (himg (v := (i : Int)) (by omega) (by omega)) fun y1 r1 => Subscript_ (nm a'' (v := vim) (by walk_at "lk") (nm a'' (v := .int (j : Int) tj) (by walk_at "lk") (itL (d := tyD (.var (L' j))) a''.z (rim.mono hzz) (by omega) (by omega) (himg (v := (j : Int)) (by omega) (by omega)) fun y2 r2 => eqTy a''.z r1 r2 (by have := am.units; omega) ?_))))))))
        refine wpAny_Compare1 (Subscript_ (ldCell (c := h.objs.size + 2) (by rfl) ((hled5.keeps hzz).keeps a''.z) (nm a'' (v := .int (i : Int) ti) (by walk_at "lk") (itL (d := .int (Lf i)) a''.z (rled5.mono hzz) (by omega) (by omega) (lookD_led _ (by omega) (by omega)) fun y3 r3 => ?_))))
        obtain ⟨t3, rfl⟩ := r3.unint
        refine Subscript_ (ldCell (c := h.objs.size + 2) (by rfl) ((hled5.keeps hzz).keeps a''.z) (nm a'' (v := .int (j : Int) tj) (by walk_at "lk") (itL (d := .int (Lf j)) a''.z (rled5.mono hzz) (by omega) (by omega) (lookD_led _ (by omega) (by omega)) fun y4 r4 => ?_)))
        obtain ⟨t4, rfl⟩ := r4.unint
        refine eq_int (ne_bool (trB false ?_ ⟨rfl, _, rfl⟩))
        rw [Bool.beq_eq_decide_eq]
        have e : decide (Ty.var (L' (i : Int)) = Ty.var (L' (j : Int))) = decide (Lf (i : Int) = Lf (j : Int)) := by
          congr 1
          refine propext ⟨fun q => (hker _ _).mpr (by injection q), fun q => by rw [(hker _ _).mp q]⟩
        rw [e]; simp
      · exact wpAny_execs_nil (wpAny_execs_nil (TurnEnd.next (Ms' := []) (Sub.refl _) a'' ⟨rfl, by walk_at "lk", by walk_at "lk", by walk_at "lk", by walk_at "lk"⟩))
    · rintro Z'' Ms'' h3 m'' tk'' hz'' ⟨rfl, p1, p2, p3, p4⟩ a''
      exact wpAny_execs_nil (TurnEnd.next (Ms' := []) hz'' a'' ⟨rfl, by walk_at "lk", by walk_at "lk", by walk_at "lk"⟩)
  · rintro Z' Ms' h'' m' tk' hz' ⟨rfl, q1, q2, q3⟩ a'
    have hzz : Sub Z Z' := fun b o e => hz' b o (hz5 b o e)
    exact stage4 X a' (hsc.keeps hzz) (hled.keeps hzz) (rled.mono hzz) q2 (rmk.mono hzz) q3 (rs.mono hzz hzz) hR hol
end
end Mine

namespace Mine
open PySem PyProof.Rows PySem.Calls
set_option maxRecDepth 100000

local macro_rules | `(tactic| walk_at "lk") => `(tactic| first | assumption | exact up_self | (refine up_ne (by decide) ?_; walk_at "lk"))

theorem filterMap_len (p : Int → Bool) (F : Nat → PyData) : ∀ l : List Nat, (l.filterMap fun (i : Nat) => if p (i : Int) = true then some (F i) else none).length = ((l.map fun (i : Nat) => (i : Int)).filter p).length
  | [] => rfl
  | i :: l => by
    rw [List.filterMap_cons, List.map_cons, List.filter_cons]
    cases p (i : Int) with
    | true => simp only [if_true, List.length_cons, filterMap_len p F l]
    | false => simp only [Bool.false_eq_true, if_false, filterMap_len p F l]

section
variable {prog : Program} {w : World} {A : Around} {E : Value → Shared → Prop} {h : Heap} {r : Shared} {mg mb : Str → Option Value} {ns : List Int} {vs vM vS : Value} {Cc Co Cf : Addr} {f : Addr} {cd : Value}

theorem neTy {Z : Heap} {h : Heap} {tk : Nat} {v u : Value} {t : Ty} {Q : Value → Shared → Prop} (hz : Sub Z h) (hv : Rd Z v (tyD t)) (hu : Rd Z u (tyD t)) (hun : A.units + 2 < cLine) (q : Q (.bool false) (St r h tk)) :
    wpAny (model prog w) A (compareOp .NotEq v u) Q E (St r h tk) := by
  obtain ⟨as, hv⟩ := hv.mono hz
  obtain ⟨bs, hu⟩ := hu.mono hz
  refine PySem.SeqAt.compareNe_reads (s := St r h tk) hv hu (canLay_tyD t) (canLay_tyD t) ?_ (by rw [SeqAt.eqv_refl _ (canLay_tyD t)]; exact q)
  have : (tyD t).depth ≤ 2 := depth_lD t.enc
  rw [Nat.min_self]
  omega
structure Loc7 (vmk vd0 va vb vsh vl vsd : Value) (m : Str → Option Value) : Prop where
  km : m "makers" = some vmk
  d0 : m "s0" = some vd0
  a : m "a" = some va
  b : m "b" = some vb
  sh : m "shape" = some vsh
  l : m "left" = some vl
  s : m "s" = some vsd
theorem Loc7.up {vmk vd0 va vb vsh vl vsd : Value} {m : Str → Option Value} {x : Str} {v : Value} (k : Loc7 vmk vd0 va vb vsh vl vsd m)
    (h1 : ("makers" : Str) ≠ x := by decide) (h2 : ("s0" : Str) ≠ x := by decide) (h3 : ("a" : Str) ≠ x := by decide) (h4 : ("b" : Str) ≠ x := by decide) (h5 : ("shape" : Str) ≠ x := by decide) (h6 : ("left" : Str) ≠ x := by decide) (h7 : ("s" : Str) ≠ x := by decide) :
    Loc7 vmk vd0 va vb vsh vl vsd (Mine.up m x v) := ⟨up_ne h1 k.km, up_ne h2 k.d0, up_ne h3 k.a, up_ne h4 k.b, up_ne h5 k.sh, up_ne h6 k.l, up_ne h7 k.s⟩

set_option maxHeartbeats 8000000 in
theorem stage2 (X : Law prog w A mg mb h ns vs vM vS Cc Co Cf) {Z h' : Heap} {m : Str → Option Value} {tk : Nat} {vled vmk vd0 va vb vl vsh : Value} {Lf : Int → Int} {b1 b2 b3 : Bool} {o3 : Obj} {kk : Nat} {lf rf : Nat → Int}
    (a : At h h Z (lawEnv h f cd).locals [(h.objs.size + 3, o3)] h' m) (ho3 : o3.data = .cell none) (hsc : Z.IsCell (h.objs.size + 1) (some vs)) (hled : Z.IsCell (h.objs.size + 2) (some vled)) (rled : Rd Z vled (intsD (ledOf Lf))) (mmk : m "makers" = some vmk) (rmk : Rd Z vmk (.list [.str (mkS b1), .str (mkS b2), .str (mkS b3)]))
    (md : m "s0" = some vd0) (rd : RdD prog w Z Z vd0 (dD (startD ns))) (ma : m "a" = some va) (ra : Rd Z va (tyD ((sk kk b1 b2 b3).fill lf))) (mb' : m "b" = some vb) (rb : Rd Z vb (tyD ((sk kk b1 b2 b3).fill rf)))
    (hkk : kk < 7) (msh : m "shape" = some vsh) (rsh : Rd Z vsh (.tuple ((shp kk).map fun (p : Nat) => PyData.int (p : Int)))) (ml : m "left" = some vl) (rl : Rd Z vl (intsD (l4 lf)))
    (hl5 : Ok5 lf) (hr5 : Ok5 rf) (hLf : Lf = ((sk kk b1 b2 b3).pairs lf rf).foldl step (lead (startD ns))) :
    wpAny (model prog w) (A.deeper (lawEnv h f cd)) (execs ((bodyF 18).drop 10) (lawEnv h f cd)) (Fine r h) (fun _ _ => False) (St r h' tk) := by
  have am : Amb (A.deeper (lawEnv h f cd)) 5 26 := X.am.deeper _
  have gz : ∀ {h' : Heap}, Sub h h' → Gl mg mb h' := fun q => X.g.mono q
  have hfr1 := Around.frames_deeper (env := lawEnv h f cd) X.fr
  have up := startD_up ns
  have hS := sk_size kk b1 b2 b3
  have hdl : (startD ns).length ≤ 5 := by have := startN_len ns (cellN ns 12 3).toNat; have := cellN_range ns 12 (k := 3) (by decide); unfold startD; omega
  generalize hd : startD ns = d at rd hLf up hdl
  generalize hSS : sk kk b1 b2 b3 = S at ra rb hLf hS
  obtain ⟨out, hu1, hu2, hu3, hu4⟩ := unify_law (S := S) (f := lf) (g := rf) up.R hl5 hr5 500 (by omega) (by omega)
  rw [← hLf] at hu3
  have hjoin : (S.fill fun i => Lf (lf i)) = S.fill fun i => Lf (rf i) := by rw [hLf]; exact fill_joins S lf rf (lead d)
  have hds : ∀ p ∈ d, p.2.len ≤ 1000 := by
    intro p hp
    obtain ⟨i, hi⟩ := List.getElem?_of_mem hp
    obtain ⟨y, hy⟩ := up.R.look_var (take_new up.nodup (k := p.1) (T := p.2) hi).1
    rw [hy]; exact Nat.le_of_ble_eq_true rfl
  have hcount := hu3.count
  have hol : out.length ≤ 5 := by omega
  have hsm : ∀ {t : Ty}, t.len ≤ 60 → ∀ i, (iter out i t).enc.length ≤ 1000000 := fun ht i => by rw [enc_len, hu3.len_iter]; omega
  -- s
  have g1 := gz a.keep
  obtain ⟨f16, e16, fn16⟩ := g1.fn 16 (by decide)
  refine wpAny_execs_cons (asg (gcall g1.g e16 fn16 (args_cons (nm a (v := va) ma (args_cons (nm a (v := vb) mb' (args_cons (nm a (v := vd0) md (args_cons (cint (args_nil ⟨fun _ e => e, ?_⟩)))))))))))
  refine end_spec (n := 500) (Y := h) g1 fn16 am hfr1 (Law.frok a) a.keep Law.free X.g.g X.oc X.oo X.of X.n1 X.n2 X.n3 a.z ra rb rd up.nodup (by omega) hds (by omega) hu2 (fun vsd o2 h2 Z2 tk2 hr gr rs => ?_) (fun y t h20 tk20 hr k1 k2 => by rw [hu1] at hr; cases hr)
  rw [hu1] at hr
  cases hr
  refine sto (r := r) (a.call gr) fun h3 a3 => ?_
  have g3 := gz a3.keep
  refine wpAny_execs_cons (cutIf false ?_ (fun q => by cases q) (fun _ tk4 => ?_))
  · exact wpAny_isTrue_Not (wpAny_isTrue_value (bcall g3.g (g3.miss _ (by decide)) g3.b g3.bisinstance (args_cons (nm a3 (v := vsd) (by walk_at "lk") (args_cons (bname g3.g (g3.miss _ (by decide)) g3.b g3.bdict (args_nil (isiD a3.z rs (trB true rfl ⟨rfl, _, rfl⟩)))))))))
  -- s0 is as before
  have rd2 := rd.mono gr.z0 gr.z0
  obtain ⟨f14, e14, fn14⟩ := g3.fn 14 (by decide)
  refine wpAny_execs_nil (wpAny_execs_cons (wpAny_If (wpAny_isTrue_Compare1 (nm a3 (v := vd0) (by walk_at "lk") (gcall g3.g e14 fn14 (args_cons (ldCell (c := h.objs.size + 1) (by rfl) ((hsc.keeps gr.z0).keeps a3.z) (args_nil ⟨fun _ e => e, start_spec g3 fn14 (am.le (by omega) (by omega)) a3.z ((X.script.mono a.z0).mono gr.z0) X.len fun vd1 h5 Z5 tk5 gr5 rd5 => ?_⟩))))))))
  have a5 := a3.call gr5
  rw [hd] at rd5
  refine neD (d := d) ((rd2.mono gr5.z0 gr5.z0).mono a5.z a5.z) (rd5.mono a5.z a5.z) up.nodup (by have := am.units; omega) (trB false rfl (ifF rfl (wpAny_execs_nil ?_)))
  have rs5 := rs.mono gr5.z0 gr5.z0
  have hz5 : Sub Z Z5 := fun b o e => gr5.z0 b o (gr.z0 b o e)
  have K5 : Loc7 vmk vd0 va vb vsh vl vsd (Mine.up m "s" vsd) := ⟨by walk_at "lk", by walk_at "lk", by walk_at "lk", by walk_at "lk", by walk_at "lk", by walk_at "lk", by walk_at "lk"⟩
  generalize Mine.up m "s" vsd = m5 at a5 K5
  clear a3 g3
  -- the keys of s0
  refine wpAny_execs_cons (wpAny_For (nm a5 (v := vd0) K5.d0 (for_dict (r := r) (T := []) (Ms := [(h.objs.size + 3, o3)]) am.hh
    (fun i Z' Ms' m' => Ms' = [(h.objs.size + 3, o3)] ∧ Loc7 vmk vd0 va vb vsh vl vsd m') a5.z (rd2.mono gr5.z0 gr5.z0) a5 ⟨rfl, K5⟩ ?_ ?_)))
  · rintro i k y t Z' Ms' T' h'' m' tk' hi hz' ⟨rfl, K'⟩ a'
    obtain ⟨T, hT, rfl⟩ : ∃ T, d[i]? = some (k, T) ∧ y = tyD T := by
      unfold dD at hi
      rw [List.getElem?_map] at hi
      cases q : d[i]? with
      | none => rw [q] at hi; cases hi
      | some p => rw [q] at hi; obtain ⟨p1, p2⟩ := p; simp only [Option.map_some, Option.some.injEq, Prod.mk.injEq] at hi; exact ⟨p2, by rw [hi.1], hi.2.symm⟩
    obtain ⟨hl, _⟩ := take_new up.nodup hT
    have hl' := hu4 k T hl
    have K'' := K'.up (x := "k") (v := .int k t)
    refine wpAny_execs_cons (cutIf false ?_ (fun q => by cases q) (fun _ tk7 => ?_))
    · refine wpAny_isTrue_Compare1 (getM (x := tyD T) a' a'.z (rs5.mono hz' hz') (by rw [lookD_dD, hl']; rfl) K''.s up_self fun y1 r1 => Subscript_ (nm a' (v := vd0) K''.d0 (nm a' (v := .int k t) up_self (getD (x := tyD T) a'.z (((rd2.mono gr5.z0 gr5.z0)).mono hz' hz') (by rw [lookD_dD, hl]; rfl) fun y2 r2 => ?_))))
      exact neTy a'.z r1 r2 (by have := am.units; omega) (trB false rfl ⟨rfl, _, rfl⟩)
    · exact wpAny_execs_nil (wpAny_execs_nil (TurnEnd.next (Ms' := [(h.objs.size + 3, o3)]) (Sub.refl _) a' ⟨rfl, K''⟩))
  rintro Z6 Ms6 h6 m6 tk6 hz6 ⟨rfl, K6⟩ a6
  have hz6 : Sub Z Z6 := fun b o e => hz6 b o (hz5 b o e)
  have rs6 : RdD prog w Z6 Z6 vsd (dD out) := rs5.mono (by assumption) (by assumption)
  have rled6 := rled.mono hz6
  have hled6 := hled.keeps hz6
  have g6 := gz a6.keep
  -- the count
  refine wpAny_execs_cons (wpAny_If (wpAny_isTrue_Compare1 (bcall g6.g (g6.miss _ (by decide)) g6.b g6.blen (args_cons (nm a6 (v := vsd) K6.s (args_nil (lenD a6.z rs6 (by simp only [dD, List.length_map]; omega) fun t7 tk7 => ?_)))))))
  refine wpAny_BinOp (cint (bcall g6.g (g6.miss _ (by decide)) g6.b g6.blen (args_cons (compE (r := r) (n := 5) (P := fun i u => ∃ t, u = .int (i : Int) t) a6.z (by omega) (by rfl) (fun i => if decide ((i : Int) ∈ ledOf Lf) = true then some (.int (i : Int)) else none) (it_range1 (N := 5) g6 am.hh (by decide) (by decide)) ?_ ?_))))
  · rintro i v C Z' T' h'' m' tk' hi ⟨ti, rfl⟩ hz' a' mx
    obtain ⟨ll, us, rfl, il, ri⟩ := (rled6.mono hz').unlist
    refine wpAny_tests_one (wpAny_isTrue_Compare1 (nm a' (v := .int (i : Int) ti) mx (ldCell (c := h.objs.size + 2) (by rfl) ((hled6.keeps hz').keeps a'.z) (inI (isList_mono a'.z il) (rd_ints ri) (trB (decide ((i : Int) ∈ ledOf Lf)) rfl ?_)))))
    by_cases hin : (i : Int) ∈ ledOf Lf
    · rw [decide_eq_true hin]
      refine ⟨by rw [if_pos rfl]; rfl, _, rfl, fun d he => ?_⟩
      rw [if_pos rfl] at he
      cases he
      exact nm a' (v := .int (i : Int) ti) mx ⟨h'', Z', _, _, rfl, Sub.refl _, a', .int _ _⟩
    · rw [decide_eq_false hin]
      refine ⟨by rw [if_neg Bool.false_ne_true]; rfl, _, rfl, fun d he => ?_⟩
      rw [if_neg Bool.false_ne_true] at he
      cases he
  intro vc h8 Z8 tk8 gr8 rc
  have a8 := a6.call gr8
  have hcl : ((List.range 5).filterMap fun (i : Nat) => if decide ((i : Int) ∈ ledOf Lf) = true then some (PyData.int (i : Int)) else none).length + out.length = 5 := by
    rw [filterMap_len (fun x => decide (x ∈ ledOf Lf)) (fun i => PyData.int (i : Int))]; exact hcount
  refine args_nil (lenL a8.z rc (by omega) fun t9 tk9 => sub_int (ne_int (trB false ?_ (ifF rfl (wpAny_execs_nil ?_)))))
  · have e : ((dD out).length : Int) = (out.length : Int) := by simp only [dD, List.length_map]
    rw [e]
    have e2 : (out.length : Int) = 5 - (((List.range 5).filterMap fun (i : Nat) => if decide ((i : Int) ∈ ledOf Lf) = true then some (PyData.int (i : Int)) else none).length : Int) := by omega
    rw [← e2]; simp
  have hz8 : Sub Z Z8 := fun b o e => gr8.z0 b o (hz6 b o e)
  have g8 := gz a8.keep
  -- each variable goes to its leader
  refine wpAny_execs_cons (wpAny_For (tcall g8.g (g8.miss _ (by decide)) g8.b g8.brange (args_cons (cint (args_nil (for_range (r := r) (T := []) (Ms := [(h.objs.size + 3, o3)]) am.hh (by decide) (by decide)
    (fun i Z' Ms' m' => Ms' = [(h.objs.size + 3, o3)] ∧ Loc7 vmk vd0 va vb vsh vl vsd m') a8 ⟨rfl, K6⟩ ?_ ?_))))))
  · rintro i ti Z' Ms' T' h'' m' tk' hi hz' ⟨rfl, K'⟩ a'
    have hi : i < 5 := hi
    have hzz : Sub Z Z' := fun b o e => hz' b o (hz8 b o e)
    have g9 := gz a'.keep
    obtain ⟨f7, e7, fn0⟩ := X.g.fn 7 (by decide)
    have K'' := K'.up (x := "v") (v := .int (i : Int) ti)
    refine wpAny_execs_cons (wpAny_If (wpAny_isTrue_Compare1 (gcall g9.g e7 (fn0.mono a'.keep) (args_cons (List_ (args_cons (Tuple_ (args_cons (cstr (args_cons (nm a' (v := .int (i : Int) ti) up_self (args_nil (tupF (r := r) a' (.cons (.str "var" _) (.cons (.int (i : Int) ti) .nil)) fun l1 h1 Z1 hs1 a1 r1 => args_nil (lstF (r := r) a1 (.one r1) fun l2 h2 Z2 hs2 a2 r2 => args_cons (nm a2 (v := vsd) K''.s (args_nil ⟨fn0.keep a'.keep a2.keep, ?_⟩))))))))))))))))
    have r2 : Rd Z2 (.ref l2) (tyD (.var (i : Int))) := r2
    have hz2 : Sub Z' Z2 := fun b o e => hs2 b o (hs1 b o e)
    have hz82 : Sub Z8 Z2 := fun b o e => hz2 b o (hz' b o e)
    have rs8 := rs6.mono gr8.z0 gr8.z0
    refine apply_spec (gz a2.keep) (fn0.mono a2.keep) (am.le (by omega) (by omega)) a2.z r2 ((rs8.mono hz82 hz82).mono a2.z (Sub.refl _)) (by omega) (hsm (Nat.le_of_ble_eq_true rfl)) fun y3 h3 Z3 tk3 gr3 r3 => ?_
    rw [hu3.apply] at r3
    have a3 := a2.call gr3
    have hz3 : Sub Z' Z3 := fun b o e => gr3.z0 b o (hz2 b o e)
    have hz3' : Sub Z Z3 := fun b o e => hz3 b o (hzz b o e)
    refine List_ (args_cons (Tuple_ (args_cons (cstr (args_cons (Subscript_ (ldCell (c := h.objs.size + 2) (by rfl) ((hled.keeps hz3').keeps a3.z) (nm a3 (v := .int (i : Int) ti) up_self (itL (d := .int (Lf i)) a3.z (rled.mono hz3') (by omega) (by omega) (lookD_led _ (by omega) (by omega)) fun y4 r4 => args_nil (tupF (r := r) a3 (.cons (.str "var" _) (.cons r4 .nil)) fun l5 h5 Z5 hs5 a5 r5 => args_nil (lstF (r := r) a5 (.one r5) fun l6 h6 Z6 hs6 a6 r6 => ?_)))))))))))
    have r6 : Rd Z6 (.ref l6) (tyD (.var (Lf (i : Int)))) := r6
    have hz36 : Sub Z3 Z6 := fun b o e => hs6 b o (hs5 b o e)
    refine neTy (t := .var (Lf (i : Int))) a6.z (r3.mono hz36) r6 (by have := am.units; omega) (trB false rfl (ifF rfl (wpAny_execs_nil (wpAny_execs_nil (TurnEnd.next (Ms' := [(h.objs.size + 3, o3)]) (fun b o e => hz36 b o (hz3 b o e)) a6 ⟨rfl, K''⟩)))))
  rintro ZA MsA hA mA tkA hzA ⟨rfl, KA⟩ aA
  have hzA : Sub Z ZA := fun b o e => hzA b o (hz8 b o e)
  have gA := gz aA.keep
  have rs9 : RdD prog w ZA ZA vsd (dD out) := (rs6.mono gr8.z0 gr8.z0).mono (by assumption) (by assumption)
  have rledA := rled.mono hzA
  -- want
  obtain ⟨f13, e13, fn13⟩ := X.g.fn 13 (by decide)
  refine wpAny_execs_cons (asg (gcall gA.g e13 (fn13.mono aA.keep) (args_cons (nm aA (v := vsh) KA.sh (args_cons (nm aA (v := vmk) KA.km (args_cons (compE (r := r) (n := 4) (P := OfL ZA ((l4 lf).map .int)) aA.z (by omega) (by rfl) (fun i => some (.int (Lf (lf i)))) (nm aA (v := vl) KA.l ?_) ?_ ?_))))))))
  · exact it_list (E := fun _ _ => False) (r := r) am.hh aA.z (Sub.refl _) (Nat.le_refl _) (rl.mono hzA)
  · rintro i v C Z' T' h'' m' tk' hi ⟨dv, hdv, rdv⟩ hz' a' mx
    have hdv' : dv = .int (lf i) := by
      have : i = 0 ∨ i = 1 ∨ i = 2 ∨ i = 3 := by omega
      rcases this with rfl | rfl | rfl | rfl <;> (cases hdv; rfl)
    subst hdv'
    obtain ⟨tv, rfl⟩ := rdv.unint
    obtain ⟨h0, h5⟩ := hl5 i
    refine turn_plain (d0 := .int (Lf (lf i))) (Ok := fun y d s₄ => ∃ h4 Z4 tk4 m4, s₄ = St r h4 tk4 ∧ Sub Z' Z4 ∧ At _ _ Z4 C T' h4 m4 ∧ Rd Z4 y d) rfl ?_
    exact Subscript_ (ldCell (c := h.objs.size + 2) (by rfl) (((hled.keeps hzA).keeps hz').keeps a'.z) (nm a' (v := .int (lf i) tv) mx (itL (d := .int (Lf (lf i))) a'.z (rledA.mono hz') h0 (by omega) (lookD_led _ h0 h5) fun y1 r1 => ⟨h'', Z', tk', _, rfl, Sub.refl _, a', r1⟩)))
  intro vw hB ZB tkB grB rw'
  have rw' : Rd ZB vw (intsD (l4 fun i => Lf (lf i))) := rw'
  have aB := aA.call grB
  have hzB : Sub Z ZB := fun b o e => grB.z0 b o (hzA b o e)
  refine args_nil ⟨fn13.keep aA.keep aB.keep, type_spec (sh := shp kk) (ms := [mkS b1, mkS b2, mkS b3]) (T := (sk kk b1 b2 b3).fill fun i => Lf (lf i)) (gz aB.keep) (fn13.mono aB.keep) (am.le (by omega) (by omega)) aB.z (rsh.mono hzB) (rmk.mono hzB) rw' (shp_le kk) (Nat.le_of_ble_eq_true rfl) (Nat.le_of_ble_eq_true rfl) (sk_fill hkk b1 b2 b3 _) fun vwant hC ZC tkC grC rwant => ?_⟩
  rw [hSS] at rwant
  have aC := aB.call grC
  refine sto (r := r) aC fun hD aD => ?_
  have KD := KA.up (x := "want") (v := vwant)
  have hzC : Sub Z ZC := fun b o e => grC.z0 b o (hzB b o e)
  have rsC : RdD prog w ZC ZC vsd (dD out) := (rs9.mono grB.z0 grB.z0).mono grC.z0 grC.z0
  obtain ⟨f7, e7, fn7⟩ := X.g.fn 7 (by decide)
  have hSl : ∀ g, (S.fill g).len ≤ 60 := fun g => by rw [S.fill_len]; omega
  -- apply(a, s)
  refine wpAny_execs_cons (wpAny_If (wpAny_isTrue_Compare1 (gcall (gz aD.keep).g e7 (fn7.mono aD.keep) (args_cons (nm aD (v := va) KD.a (args_cons (nm aD (v := vsd) KD.s (args_nil ⟨fun _ e => e, apply_spec (gz aD.keep) (fn7.mono aD.keep) (am.le (by omega) (by omega)) aD.z (ra.mono hzC) (rsC.mono aD.z (Sub.refl _)) (by omega) (hsm (hSl lf)) fun yE hE ZE tkE grE rE => ?_⟩))))))))
  have aE := aD.call grE
  rw [hu3.apply, S.fill_ren] at rE
  refine nm aE (v := vwant) up_self (neTy aE.z rE (rwant.mono grE.z0) (by have := am.units; omega) (trB false rfl (ifF rfl (wpAny_execs_nil ?_))))
  -- apply(b, s)
  refine wpAny_execs_cons (wpAny_If (wpAny_isTrue_Compare1 (gcall (gz aE.keep).g e7 (fn7.mono aE.keep) (args_cons (nm aE (v := vb) KD.b (args_cons (nm aE (v := vsd) KD.s (args_nil ⟨fun _ e => e, apply_spec (gz aE.keep) (fn7.mono aE.keep) (am.le (by omega) (by omega)) aE.z ((rb.mono hzC).mono grE.z0) ((rsC.mono grE.z0 grE.z0).mono aE.z (Sub.refl _)) (by omega) (hsm (hSl rf)) fun yF hF ZF tkF grF rF => ?_⟩))))))))
  have aF := aE.call grF
  rw [hu3.apply, S.fill_ren, ← hjoin] at rF
  refine nm aF (v := vwant) up_self (neTy aF.z rF ((rwant.mono grE.z0).mono grF.z0) (by have := am.units; omega) (trB false rfl (ifF rfl (wpAny_execs_nil ?_))))
  have hzF : Sub Z ZF := fun b o e => grF.z0 b o (grE.z0 b o (hzC b o e))
  have hzCF : Sub ZC ZF := fun b o e => grF.z0 b o (grE.z0 b o e)
  exact stage3 (S := S) (lf := lf) (rf := rf) X aF ho3 (hsc.keeps hzF) (hled.keeps hzF) (rled.mono hzF) KD.km (rmk.mono hzF) KD.s (rsC.mono hzCF hzCF) hu3 hol KD.d0 (rd.mono hzF hzF) up hdl KD.a (ra.mono hzF) KD.b (rb.mono hzF) hS hl5 hr5 hLf
end
end Mine

namespace Mine
open PySem PyProof.Rows PySem.Calls
set_option maxRecDepth 100000

local macro_rules | `(tactic| walk_at "lk") => `(tactic| first | assumption | exact up_self | (refine up_ne (by decide) ?_; walk_at "lk"))

def bit (ns : List Int) (j : Nat) : Bool := decide (cellN ns j 2 = 1)
def rot (n : Nat) (f : Nat → Int) (i : Nat) : Int := if i + 1 < n then f (i + 1) else if i + 1 = n then f 0 else f i
theorem rot_list {k : Nat} (f : Nat → Int) : (((l4 f).drop 1).take (lvs k - 1) ++ (l4 f).take 1) ++ (l4 f).drop (lvs k) = l4 (rot (lvs k) f) := by
  have : lvs k = 1 ∨ lvs k = 2 ∨ lvs k = 3 ∨ lvs k = 4 := by have := lvs_le k; omega
  rcases this with e | e | e | e <;> (rw [e]; rfl)
theorem rot_ok {n : Nat} {f : Nat → Int} (h : Ok5 f) : Ok5 (rot n f) := by
  intro i
  unfold rot
  split
  · exact h _
  · split
    · exact h _
    · exact h _

section
variable {prog : Program} {w : World} {A : Around} {E : Value → Shared → Prop} {h : Heap} {r : Shared} {mg mb : Str → Option Value} {ns : List Int} {vs vM vS : Value} {Cc Co Cf : Addr} {f : Addr} {cd : Value}

set_option maxHeartbeats 8000000 in
theorem stage1b (X : Law prog w A mg mb h ns vs vM vS Cc Co Cf) {Z h' : Heap} {m : Str → Option Value} {tk : Nat} {vmk vl vr vsh : Value} {b1 b2 b3 : Bool} {o2 o3 : Obj} {kk : Nat} {lf rf : Nat → Int}
    (a : At h h Z (lawEnv h f cd).locals [(h.objs.size + 2, o2), (h.objs.size + 3, o3)] h' m) (ho2 : o2.data = .cell none) (ho3 : o3.data = .cell none) (hsc : Z.IsCell (h.objs.size + 1) (some vs)) (mmk : m "makers" = some vmk) (rmk : Rd Z vmk (.list [.str (mkS b1), .str (mkS b2), .str (mkS b3)]))
    (hkk : kk < 7) (msh : m "shape" = some vsh) (rsh : Rd Z vsh (.tuple ((shp kk).map fun (p : Nat) => PyData.int (p : Int)))) (mn : IntAt m "n" (lvs kk : Int)) (ml : m "left" = some vl) (rl : Rd Z vl (intsD (l4 lf))) (mr : m "right" = some vr) (rr : Rd Z vr (intsD (l4 rf)))
    (hl5 : Ok5 lf) (hr5 : Ok5 rf) :
    wpAny (model prog w) (A.deeper (lawEnv h f cd)) (execs ((bodyF 18).drop 6) (lawEnv h f cd)) (Fine r h) (fun _ _ => False) (St r h' tk) := by
  have am : Amb (A.deeper (lawEnv h f cd)) 5 26 := X.am.deeper _
  have gz : ∀ {h' : Heap}, Sub h h' → Gl mg mb h' := fun q => X.g.mono q
  obtain ⟨tn, mn⟩ := mn
  obtain ⟨f13, e13, fn13⟩ := X.g.fn 13 (by decide)
  -- a
  refine wpAny_execs_cons (asg (gcall (gz a.keep).g e13 (fn13.mono a.keep) (args_cons (nm a (v := vsh) msh (args_cons (nm a (v := vmk) mmk (args_cons (nm a (v := vl) ml (args_nil ⟨fun _ e => e, type_spec (sh := shp kk) (ms := [mkS b1, mkS b2, mkS b3]) (T := (sk kk b1 b2 b3).fill lf) (gz a.keep) (fn13.mono a.keep) (am.le (by omega) (by omega)) a.z rsh rmk rl (shp_le kk) (Nat.le_of_ble_eq_true rfl) (Nat.le_of_ble_eq_true rfl) (sk_fill hkk b1 b2 b3 _) fun va h1 Z1 tk1 gr1 ra => sto (r := r) (a.call gr1) fun h2 a2 => ?_⟩)))))))))
  -- b
  refine wpAny_execs_cons (asg (gcall (gz a2.keep).g e13 (fn13.mono a2.keep) (args_cons (nm a2 (v := vsh) (by walk_at "lk") (args_cons (nm a2 (v := vmk) (by walk_at "lk") (args_cons (nm a2 (v := vr) (by walk_at "lk") (args_nil ⟨fun _ e => e, type_spec (sh := shp kk) (ms := [mkS b1, mkS b2, mkS b3]) (T := (sk kk b1 b2 b3).fill rf) (gz a2.keep) (fn13.mono a2.keep) (am.le (by omega) (by omega)) a2.z (rsh.mono gr1.z0) (rmk.mono gr1.z0) (rr.mono gr1.z0) (shp_le kk) (Nat.le_of_ble_eq_true rfl) (Nat.le_of_ble_eq_true rfl) (sk_fill hkk b1 b2 b3 _) fun vb h3 Z3 tk3 gr3 rb => sto (r := r) (a2.call gr3) fun h4 a4 => ?_⟩)))))))))
  have hz3 : Sub Z Z3 := fun b o e => gr3.z0 b o (gr1.z0 b o e)
  -- s0
  obtain ⟨f14, e14, fn14⟩ := X.g.fn 14 (by decide)
  refine wpAny_execs_cons (asg (gcall (gz a4.keep).g e14 (fn14.mono a4.keep) (args_cons (ldCell (c := h.objs.size + 1) (by rfl) ((hsc.keeps hz3).keeps a4.z) (args_nil ⟨fun _ e => e, start_spec (gz a4.keep) (fn14.mono a4.keep) (am.le (by omega) (by omega)) a4.z (X.script.mono a4.z0) X.len fun vd0 h5 Z5 tk5 gr5 rd => sto (r := r) (a4.call gr5) fun h6 a6 => ?_⟩)))))
  have hz5 : Sub Z Z5 := fun b o e => gr5.z0 b o (hz3 b o e)
  -- led
  obtain ⟨f15, e15, fn15⟩ := X.g.fn 15 (by decide)
  have hlv := lvs_le kk
  have hup : ∀ its : Array Value, its.size = 4 → slicePick its none (some (lvs kk : Int)) none = ((its.toList.drop 0).take (lvs kk)).toArray := fun its he => by rw [List.drop_zero]; exact slicePick_upto its (lvs kk) (by omega)
  refine wpAny_execs_cons (asg (gcall (gz a6.keep).g e15 (fn15.mono a6.keep) (args_cons (nm a6 (v := vd0) (by walk_at "lk") (args_cons (Subscript_ (nm a6 (v := vl) (by walk_at "lk") (wpAny_Slice (wpAny_pure (nm a6 (v := .int (lvs kk : Int) tn) (by walk_at "lk") (wpAny_pure (slF (r := r) (i := 0) (j := lvs kk) a6 (rl.mono hz5) .none (.int _ _) (Nat.le_of_ble_eq_true rfl) hup fun l7 h7 Z7 hs7 a7 r7 => ?_))))))))))))
  refine args_cons (Subscript_ (nm a7 (v := vr) (by walk_at "lk") (wpAny_Slice (wpAny_pure (nm a7 (v := .int (lvs kk : Int) tn) (by walk_at "lk") (wpAny_pure (slF (r := r) (i := 0) (j := lvs kk) a7 ((rr.mono hz5).mono hs7) .none (.int _ _) (Nat.le_of_ble_eq_true rfl) hup fun l8 h8 Z8 hs8 a8 r8 => ?_))))))) 
  have hz58 : Sub Z5 Z8 := fun b o e => hs8 b o (hs7 b o e)
  have hz8 : Sub Z Z8 := fun b o e => hz58 b o (hz5 b o e)
  have r7 : Rd Z7 (.ref l7) (intsD ((l4 lf).take (lvs kk))) := by unfold intsD; rw [List.map_take]; exact r7
  have r8 : Rd Z8 (.ref l8) (intsD ((l4 rf).take (lvs kk))) := by unfold intsD; rw [List.map_take]; exact r8
  have ok4 : ∀ {g : Nat → Int}, Ok5 g → ∀ x ∈ (l4 g).take (lvs kk), 0 ≤ x ∧ x < 5 := by
    intro g hg x hx
    have hx := List.mem_of_mem_take hx
    simp only [l4, List.mem_cons, List.not_mem_nil, or_false] at hx
    rcases hx with rfl | rfl | rfl | rfl <;> exact hg _
  have hlr : ((l4 lf).take (lvs kk)).length = ((l4 rf).take (lvs kk)).length := by rw [List.length_take, List.length_take]; rfl
  have up := startD_up ns
  refine args_nil ⟨fn15.keep a6.keep a8.keep, leaders_spec (d := startD ns) (gz a8.keep) (fn15.mono a8.keep) (am.le (by omega) (by omega)) a8.z (rd.mono hz58 hz58) up (r7.mono hs8) r8 hlr (by rw [List.length_take]; exact Nat.le_trans (Nat.min_le_right _ _) (Nat.le_of_ble_eq_true rfl)) (ok4 hl5) (ok4 hr5) (fun i => fold_range _ (fun v h0 h5 => up.R.range h0 h5) fun p hp => ok4 hr5 _ (List.of_mem_zip (List.mem_of_mem_take hp)).2) fun vled h9 Z9 tk9 gr9 rled => ?_⟩
  rw [sk_pairs hkk b1 b2 b3] at rled
  refine stCell (r := r) (env := lawEnv h f cd) (a8.call gr9) (by rfl) ho2 fun h10 o2' ho2' a10 => ?_
  obtain ⟨Z11, hs11, a11, e11⟩ := a10.freezeHead
  have hz91 : Sub Z8 Z11 := fun b o e => hs11 b o (gr9.z0 b o e)
  have hz11 : Sub Z Z11 := fun b o e => hz91 b o (hz8 b o e)
  have hz511 : Sub Z5 Z11 := fun b o e => hz91 b o (hz58 b o e)
  have hz311 : Sub Z3 Z11 := fun b o e => hz511 b o (gr5.z0 b o e)
  exact stage2 (kk := kk) (lf := lf) (rf := rf) X a11 ho3 (hsc.keeps hz11) ⟨o2', e11, ho2'⟩ (rled.mono hs11) (by walk_at "lk") (rmk.mono hz11) (by walk_at "lk") (rd.mono hz511 hz511) (by walk_at "lk") ((ra.mono gr3.z0).mono hz311) (by walk_at "lk") (rb.mono hz311) hkk (by walk_at "lk") (rsh.mono hz11) (by walk_at "lk") (rl.mono hz11) hl5 hr5 rfl

theorem cpart {A : Around} {env : Env} {h : Heap} {tk : Nat} {i : Int} {k : Nat} {pos : Pos} {Q : Value → Shared → Prop} (q : Q (.int i tk) (St r h (tk + 1))) : wpAny (model prog w) A (evalPart (some (.Constant (.int i) k pos)) env) Q E (St r h tk) := cint (k := k) (pos := pos) q
theorem mk_get {x : Int} (h : 0 ≤ x ∧ x < 2) : ([PyData.str "fun", PyData.str "pair"] : List PyData)[x.toNat]? = some (.str (mkS (decide (x = 1)))) := by
  have : x = 0 ∨ x = 1 := by omega
  rcases this with rfl | rfl <;> rfl

set_option maxHeartbeats 8000000 in
theorem law_body (X : Law prog w A mg mb h ns vs vM vS Cc Co Cf) {Z h' : Heap} {m : Str → Option Value} {tk : Nat} {o2 o3 : Obj}
    (a : At h h Z (lawEnv h f cd).locals [(h.objs.size + 2, o2), (h.objs.size + 3, o3)] h' m) (ho2 : o2.data = .cell none) (ho3 : o3.data = .cell none) (hsc : Z.IsCell (h.objs.size + 1) (some vs)) :
    wpAny (model prog w) (A.deeper (lawEnv h f cd)) (execs (bodyF 18) (lawEnv h f cd)) (Fine r h) (fun _ _ => False) (St r h' tk) := by
  have am : Amb (A.deeper (lawEnv h f cd)) 5 26 := X.am.deeper _
  have gz : ∀ {h' : Heap}, Sub h h' → Gl mg mb h' := fun q => X.g.mono q
  -- shape
  obtain ⟨k0, k7⟩ := cellN_range ns 0 (k := 7) (by decide)
  obtain ⟨kk, hkk⟩ : ∃ kk : Nat, cellN ns 0 7 = (kk : Int) := ⟨(cellN ns 0 7).toNat, by omega⟩
  refine wpAny_execs_cons (asg (Subscript_ (gname (gz a.keep).g X.hS (cellE (i := 0) X a hsc (by decide) (by decide) fun t1 h1 tk1 a1 => ?_))))
  rw [hkk] at k0 k7 ⊢
  have hk7 : kk < 7 := by omega
  refine itT (d := .tuple ((shp kk).map fun (p : Nat) => PyData.int (p : Int))) a1.z (X.rS.mono a1.z0) (by omega) (by omega) ?_ fun vsh rsh => sto (r := r) a1 fun h2 a2 => ?_
  · rw [Int.toNat_natCast, List.getElem?_map, List.getElem?_range hk7]; rfl
  -- n
  have g2 := gz a2.keep
  have hsl := shp_le kk
  refine wpAny_execs_cons (asg (wpAny_BinOp (wpAny_BinOp (bcall g2.g (g2.miss _ (by decide)) g2.b g2.blen (args_cons (nm a2 (v := vsh) up_self (args_nil (lenT a2.z rsh (by rw [List.length_map]; omega) fun t3 tk3 => cint (add_int ?_)))))))))
  have en : (((shp kk).map fun (p : Nat) => PyData.int (p : Int)).length : Int) + 1 = 2 * (lvs kk : Int) := by rw [List.length_map]; exact shp_len hk7
  rw [en]
  refine cint (floordiv_int (by decide) ?_ (Or.inl (PyProof.noPylong_small (by decide))))
  rw [Int.mul_fdiv_cancel_left _ (by decide)]
  refine sto (r := r) a2 fun h4 a4 => ?_
  have g4 := gz a4.keep
  obtain ⟨f12, e12, fn12⟩ := X.g.fn 12 (by decide)
  -- makers
  refine wpAny_execs_cons (compA (r := r) (n := 3) (P := fun i u => ∃ t, u = .int (1 + (i : Int)) t) a4 (by omega) (by rfl) (fun i => some (.str (mkS (bit ns (1 + i))))) (it_range2 (N := 1) (M := 4) g4 am.hh (by decide) (by decide) (by decide) (by decide)) ?_ ?_)
  · rintro i v C Z' T' h'' m' tk' hi ⟨ti, rfl⟩ hz' a' mx
    have kp : Sub h h'' := fun b o e => a'.keep b o (a4.keep b o e)
    refine turn_plain (d0 := .str (mkS (bit ns (1 + i)))) (Ok := fun y d s₄ => ∃ h4 Z4 tk4 m4, s₄ = St r h4 tk4 ∧ Sub Z' Z4 ∧ At _ _ Z4 C T' h4 m4 ∧ Rd Z4 y d) rfl ?_
    have e : (1 : Int) + (i : Int) = ((1 + i : Nat) : Int) := by omega
    rw [e] at mx
    refine Subscript_ (gname (gz kp).g X.hM (gcall (gz kp).g e12 (fn12.mono kp) (args_cons (ldCell (c := h.objs.size + 1) (by rfl) ((hsc.keeps hz').keeps a'.z) (args_cons (nm a' (v := .int ((1 + i : Nat) : Int) ti) mx (args_cons (cint (args_nil ⟨fun _ e => e, cell_spec (gz kp) (fn12.mono kp) (am.le (by omega) (by omega)) a'.z ((X.script.mono a4.z0).mono hz') X.len (by omega) (by decide) fun t5 h5 tk5 gr5 => ?_⟩)))))))))
    have a5 := a'.call gr5
    exact itT (d := .str (mkS (bit ns (1 + i)))) a5.z ((X.rM.mono a4.z0).mono hz') (cellN_range ns (1 + i) (by decide)).1 (by have := (cellN_range ns (1 + i) (k := 2) (by decide)).2; omega) (mk_get (cellN_range ns (1 + i) (by decide))) fun y6 r6 => ⟨h5, Z', tk5, _, rfl, Sub.refl _, a5, r6⟩
  intro vmk h5 Z5 tk5 hs5 a5 rmk
  have rmk : Rd Z5 vmk (.list [.str (mkS (bit ns 1)), .str (mkS (bit ns 2)), .str (mkS (bit ns 3))]) := rmk
  have g5 := gz a5.keep
  have hsc5 := hsc.keeps hs5
  -- left
  refine wpAny_execs_cons (compA (r := r) (n := 4) (P := fun i u => ∃ t, u = .int (4 + (i : Int)) t) a5 (by omega) (by rfl) (fun i => some (.int (cellN ns (4 + i) 5))) (it_range2 (N := 4) (M := 8) g5 am.hh (by decide) (by decide) (by decide) (by decide)) ?_ ?_)
  · rintro i v C Z' T' h'' m' tk' hi ⟨ti, rfl⟩ hz' a' mx
    have kp : Sub h h'' := fun b o e => a'.keep b o (a5.keep b o e)
    refine turn_plain (d0 := .int (cellN ns (4 + i) 5)) (Ok := fun y d s₄ => ∃ h4 Z4 tk4 m4, s₄ = St r h4 tk4 ∧ Sub Z' Z4 ∧ At _ _ Z4 C T' h4 m4 ∧ Rd Z4 y d) rfl ?_
    have e : (4 : Int) + (i : Int) = ((4 + i : Nat) : Int) := by omega
    rw [e] at mx
    exact gcall (gz kp).g e12 (fn12.mono kp) (args_cons (ldCell (c := h.objs.size + 1) (by rfl) ((hsc5.keeps hz').keeps a'.z) (args_cons (nm a' (v := .int ((4 + i : Nat) : Int) ti) mx (args_cons (cint (args_nil ⟨fun _ e => e, cell_spec (gz kp) (fn12.mono kp) (am.le (by omega) (by omega)) a'.z ((X.script.mono a5.z0).mono hz') X.len (by omega) (by decide) fun t5 h5 tk5 gr5 => ⟨h5, Z', tk5, _, rfl, Sub.refl _, a'.call gr5, .int _ _⟩⟩)))))))
  intro vl h6 Z6 tk6 hs6 a6 rl
  have rl : Rd Z6 vl (intsD (l4 fun i => cellN ns (4 + i) 5)) := rl
  have g6 := gz a6.keep
  have hsc6 := hsc5.keeps hs6
  -- right
  refine wpAny_execs_cons (compA (r := r) (n := 4) (P := fun i u => ∃ t, u = .int (8 + (i : Int)) t) a6 (by omega) (by rfl) (fun i => some (.int (cellN ns (8 + i) 5))) (it_range2 (N := 8) (M := 12) g6 am.hh (by decide) (by decide) (by decide) (by decide)) ?_ ?_)
  · rintro i v C Z' T' h'' m' tk' hi ⟨ti, rfl⟩ hz' a' mx
    have kp : Sub h h'' := fun b o e => a'.keep b o (a6.keep b o e)
    refine turn_plain (d0 := .int (cellN ns (8 + i) 5)) (Ok := fun y d s₄ => ∃ h4 Z4 tk4 m4, s₄ = St r h4 tk4 ∧ Sub Z' Z4 ∧ At _ _ Z4 C T' h4 m4 ∧ Rd Z4 y d) rfl ?_
    have e : (8 : Int) + (i : Int) = ((8 + i : Nat) : Int) := by omega
    rw [e] at mx
    exact gcall (gz kp).g e12 (fn12.mono kp) (args_cons (ldCell (c := h.objs.size + 1) (by rfl) ((hsc6.keeps hz').keeps a'.z) (args_cons (nm a' (v := .int ((8 + i : Nat) : Int) ti) mx (args_cons (cint (args_nil ⟨fun _ e => e, cell_spec (gz kp) (fn12.mono kp) (am.le (by omega) (by omega)) a'.z ((X.script.mono a6.z0).mono hz') X.len (by omega) (by decide) fun t5 h5 tk5 gr5 => ⟨h5, Z', tk5, _, rfl, Sub.refl _, a'.call gr5, .int _ _⟩⟩)))))))
  intro vr h7 Z7 tk7 hs7 a7 rr
  have rr : Rd Z7 vr (intsD (l4 fun i => cellN ns (8 + i) 5)) := rr
  have hsc7 := hsc6.keeps hs7
  have okc : ∀ n, Ok5 fun i => cellN ns (n + i) 5 := fun n i => cellN_range ns (n + i) (by decide)
  have hz57 : Sub Z5 Z7 := fun b o e => hs7 b o (hs6 b o e)
  have hz7 : Sub Z Z7 := fun b o e => hz57 b o (hs5 b o e)
  have rl7 := rl.mono hs7
  have rmk7 := rmk.mono hz57
  have rsh7 := rsh.mono hz7
  -- the turned right
  refine wpAny_execs_cons (wpAny_If (wpAny_isTrue_Compare1 (cellE (i := 17) X a7 hsc7 (by decide) (by decide) fun t8 h8 tk8 a8 => cint (eq_int (trB (decide (cellN ns 17 4 = 0)) (by rw [Bool.beq_eq_decide_eq]) ?_)))))
  by_cases hc : cellN ns 17 4 = 0
  · refine ifT (decide_eq_true hc) ?_
    have hlv := lvs_le kk
    refine wpAny_execs_cons (asg (wpAny_BinOp (wpAny_BinOp (Subscript_ (nm a8 (v := vl) (by walk_at "lk") (wpAny_Slice (cpart (nm a8 (v := .int (lvs kk : Int) _) (by walk_at "lk") (wpAny_pure (slF (r := r) (i := 1) (j := lvs kk - 1) a8 rl7 (.int _ _) (.int _ _) (Nat.le_of_ble_eq_true rfl) (fun its he => slicePick_run its 1 (lvs kk) (by rw [he]; exact hlv.2) hlv.1) fun l9 h9 Z9 hs9 a9 r9 => ?_)))))))))) 
    refine Subscript_ (nm a9 (v := vl) (by walk_at "lk") (wpAny_Slice (wpAny_pure (cpart (wpAny_pure (slF (r := r) (i := 0) (j := 1) a9 (rl7.mono hs9) .none (.int _ _) (Nat.le_of_ble_eq_true rfl) (fun its he => by rw [List.drop_zero]; exact slicePick_upto its 1 (by rw [he]; exact Nat.le_of_ble_eq_true rfl)) fun lA hA ZA hsA aA rA => ?_))))))
    refine addF (r := r) aA (r9.mono hsA) rA (by simp only [List.length_take, List.length_drop]; show min _ _ + min _ _ ≤ 1000; omega) fun lB hB ZB hsB aB rB => ?_
    refine Subscript_ (nm aB (v := vl) (by walk_at "lk") (wpAny_Slice (nm aB (v := .int (lvs kk : Int) _) (by walk_at "lk") (wpAny_pure (wpAny_pure (slF (r := r) (i := lvs kk) (j := 4) aB (((rl7.mono hs9).mono hsA).mono hsB) (.int _ _) .none (Nat.le_of_ble_eq_true rfl) (fun its he => ?_) fun lC hC ZC hsC aC rC => ?_))))))
    · rw [slicePick_from its (lvs kk) (by rw [he]; exact hlv.2), List.take_of_length_le]
      rw [List.length_drop]
      have he : its.toList.length = 4 := by rw [Array.length_toList]; exact he
      omega
    refine addF (r := r) aC (rB.mono hsC) rC (by simp only [List.length_append, List.length_take, List.length_drop]; show min _ _ + min _ _ + min _ _ ≤ 1000; omega) fun lD' hD ZD hsD aD rD => sto (r := r) aD fun hE aE => wpAny_execs_nil ?_
    have hz7D : Sub Z7 ZD := fun b o e => hsD b o (hsC b o (hsB b o (hsA b o (hs9 b o e))))
    have rD : Rd ZD (.ref lD') (intsD (l4 (rot (lvs kk) fun i => cellN ns (4 + i) 5))) := by
      unfold intsD
      rw [← rot_list]
      have e4 : ((((l4 fun i => cellN ns (4 + i) 5).map PyData.int).drop (lvs kk)).take 4) = ((l4 fun i => cellN ns (4 + i) 5).map PyData.int).drop (lvs kk) := List.take_of_length_le (by rw [List.length_drop]; show 4 - _ ≤ 4; omega)
      rw [List.map_append, List.map_append, List.map_take, List.map_take, List.map_drop, List.map_drop, ← e4]
      exact rD
    exact stage1b (kk := kk) (lf := fun i => cellN ns (4 + i) 5) X aE ho2 ho3 (hsc7.keeps hz7D) (by walk_at "lk") (rmk7.mono hz7D) hk7 (by walk_at "lk") (rsh7.mono hz7D) ⟨_, by walk_at "lk"⟩ (by walk_at "lk") (rl7.mono hz7D) (by walk_at "lk") rD (okc 4) (rot_ok (okc 4))
  · refine ifF (decide_eq_false hc) (wpAny_execs_nil ?_)
    exact stage1b (kk := kk) (lf := fun i => cellN ns (4 + i) 5) (rf := fun i => cellN ns (8 + i) 5) X a8 ho2 ho3 hsc7 (by walk_at "lk") rmk7 hk7 (by walk_at "lk") rsh7 ⟨_, by walk_at "lk"⟩ (by walk_at "lk") rl7 (by walk_at "lk") rr (okc 4) (okc 8)
end
end Mine

namespace Mine
open PySem PySem.W PyProof.Rows PySem.Calls
set_option maxRecDepth 100000

def rec4 (d : DefRec) : Str × Arguments × List Stmt × Scope := (d.name, d.params, d.body, d.scope)

def readK (K : Frag) : Nat → Value → Option PyData
  | _, .int i _ => some (.int i)
  | _, .str x _ => some (.str x)
  | n + 1, .ref a => match K.lookup a with
    | some ⟨.type "tuple", _, .seq vs _, _⟩ => (vs.toList.mapM (readK K n)).map .tuple
    | _ => none
  | _, _ => none

theorem readAll_of {K : Frag} {h : Heap} {n : Nat} (ih : ∀ v d, readK K n v = some d → Rd h v d) : ∀ (vs : List Value) (ds : List PyData), vs.mapM (readK K n) = some ds → RdAll h vs ds
  | [], ds, e => by
    have e : some [] = some ds := e
    cases e; exact .nil
  | v :: vs, ds, e => by
    rw [List.mapM_cons] at e
    cases q : readK K n v with
    | none => rw [q] at e; cases e
    | some d =>
      cases q2 : vs.mapM (readK K n) with
      | none => rw [q, q2] at e; cases e
      | some es =>
        rw [q, q2] at e
        have e : some (d :: es) = some ds := e
        cases e
        exact .cons (ih v d q) (readAll_of ih vs es q2)
theorem readK_rd {K : Frag} {h : Heap} (X : K.In h) : ∀ (n : Nat) (v : Value) (d : PyData), readK K n v = some d → Rd h v d
  | 0, v, d, e => by
    unfold readK at e
    split at e <;> first | (cases e; exact .int _ _) | (cases e; exact .str _ _) | (rename_i q; cases q) | cases e
  | n + 1, v, d, e => by
    unfold readK at e
    split at e
    · cases e; exact .int _ _
    · cases e; exact .str _ _
    · rename_i m a hm
      cases hm
      split at e
      · rename_i dd vs n' sl hl
        cases q : vs.toList.mapM (readK K n) with
        | none => rw [q] at e; cases e
        | some ds =>
          rw [q] at e
          have e : some (PyData.tuple ds) = some d := e
          cases e
          obtain ⟨as, ra⟩ := readAll_of (readK_rd X n) vs.toList ds q
          exact ⟨_, .tuple (X _ _ hl) rfl rfl ra⟩
      · cases e
    · cases e

def mroK (K : Frag) (C : Addr) : Option (List Value) := match K.lookup C with
  | some ⟨_, _, .cls cd, _⟩ => some cd.mro
  | _ => none

theorem excAt_of {K : Frag} {h : Heap} {p : Program} {loose : List Str} {mg mb : Str → Option Value} {x : Str} {C : Addr} (X : K.In h) (T : TopRead p loose mg mb h) (e : nsIn K mainGlobals x = some (some (.ref C))) (q : excIn K C excBm "Exception.__new__" = true)
    (q2 : mroK K C = some (.ref C :: excBm)) : ExcAt mg h x C := by
  obtain ⟨hb, bm, N, nm, qn, bs, hdct, sn, sub, ab, col, dd, k0, k1, k2, k3, k5, mN, hC, hN, hi, TL⟩ := own_of_in X T e q
  unfold mroK at q2
  split at q2
  · rename_i c d cd sl hl
    have hC' := X _ _ hl
    rw [hC] at hC'
    have e1 := congrArg Obj.data (Option.some.inj hC')
    unfold excClassObj at e1
    have e2 : cd.mro = .ref C :: excBm := Option.some.inj q2
    injection e1 with e1
    rw [← e1] at e2
    have e3 : bm = excBm := by injection e2
    subst e3
    exact ⟨hb, N, nm, qn, bs, hdct, sn, sub, ab, col, dd, k0, k1, k2, k3, k5, mN, hC, hN, hi⟩
  · cases q2

theorem gl_of {p : Program} {loose : List Str} {mean : ExcName → Option Value} {mg mb : Str → Option Value} {h : Heap} {K : Frag} (T : Top p loose mean mg mb h) (X : K.In h)
    (recs : (recsOf p).map rec4 = [theFn 4, theFn 5, theFn 6, theFn 7, theFn 8, theFn 12, theFn 13, theFn 14, theFn 15, theFn 16, theFn 17, theFn 18])
    (miss : ∀ x ∈ (["len", "range", "sorted", "isinstance", "dict"] : List Str), nsIn K mainGlobals x = some none) : Gl mg mb h := by
  refine ⟨T.g, T.b, T.nolimit, fun x hx => mg_none_of X T.g (miss x hx), (T.builtins _ (by decide)).trans (by rfl), (T.builtins _ (by decide)).trans (by rfl), (T.builtins _ (by decide)).trans (by rfl), (T.builtins _ (by decide)).trans (by rfl), (T.builtins _ (by decide)).trans (by rfl), fun i hi => ?_⟩
  have hm : theFn i ∈ (recsOf p).map rec4 := by
    rw [recs]
    simp only [List.mem_cons, List.not_mem_nil, or_false] at hi
    rcases hi with rfl | rfl | rfl | rfl | rfl | rfl | rfl | rfl | rfl | rfl | rfl
    · exact .head _
    · exact .tail _ (.head _)
    · exact .tail _ (.tail _ (.head _))
    · exact .tail _ (.tail _ (.tail _ (.head _)))
    · exact .tail _ (.tail _ (.tail _ (.tail _ (.head _))))
    · exact .tail _ (.tail _ (.tail _ (.tail _ (.tail _ (.head _)))))
    · exact .tail _ (.tail _ (.tail _ (.tail _ (.tail _ (.tail _ (.head _))))))
    · exact .tail _ (.tail _ (.tail _ (.tail _ (.tail _ (.tail _ (.tail _ (.head _)))))))
    · exact .tail _ (.tail _ (.tail _ (.tail _ (.tail _ (.tail _ (.tail _ (.tail _ (.head _))))))))
    · exact .tail _ (.tail _ (.tail _ (.tail _ (.tail _ (.tail _ (.tail _ (.tail _ (.tail _ (.head _)))))))))
    · exact .tail _ (.tail _ (.tail _ (.tail _ (.tail _ (.tail _ (.tail _ (.tail _ (.tail _ (.tail _ (.head _))))))))))
  obtain ⟨d, hd, hr⟩ := List.mem_map.mp hm
  obtain ⟨f, o, pm, code, doc, h1, h2, h3, h4⟩ := T.fn d hd
  have e1 : d.name = nameF i := congrArg (·.1) hr
  have e2 : d.params = paramsF i := congrArg (·.2.1) hr
  have e3 : d.body = bodyF i := congrArg (·.2.2.1) hr
  have e4 : d.scope = scopeF i := congrArg (·.2.2.2) hr
  rw [e1] at h1 h4
  rw [e1, e2, e3, e4] at h3
  exact ⟨f, h1, o, pm, code, doc, _, _, h2, h3, h4⟩
end Mine

namespace Mine
open PySem PySem.W PyProof.Rows
set_option maxRecDepth 100000
theorem news_at {h h1 : Heap} {L : Addr} {m : Str → Option Value} {oR oL oS : Obj} (F : Fr h L h1 m) (hL : L = h.objs.size) (N : News h L h1 [(L + 1 + 1 + 1, oR), (L + 1 + 1, oL), (L + 1, oS)]) : ∃ Z, At h h Z h.objs.size [(h.objs.size + 2, oL), (h.objs.size + 3, oR)] h1 m ∧ Z.get? (h.objs.size + 1) = some oS := by
  subst hL
  have a := At.startC (Ms := [(h.objs.size + 1, oS), (h.objs.size + 2, oL), (h.objs.size + 3, oR)]) (Sub.refl h) F.ns F.keep (fun p hp => by
    rcases List.mem_cons.mp hp with rfl | hp
    · exact ⟨(N _ (.tail _ (.tail _ (.head _)))).1, Nat.lt_succ_self _⟩
    rcases List.mem_cons.mp hp with rfl | hp
    · exact ⟨(N _ (.tail _ (.head _))).1, Nat.lt_add_of_pos_right (by decide)⟩
    · rw [List.mem_singleton.mp hp]; exact ⟨(N _ (.head _)).1, Nat.lt_add_of_pos_right (by decide)⟩) (by simp)
  obtain ⟨Z, _, b, e⟩ := a.freezeHead
  exact ⟨Z, b, e⟩
theorem post_true (l : OpenLaw) (args ds : List WData) : l.row.claim.post args (.bool true) ds = true := by
  show (WShape.has [] (.bool true) .bool && (WTm.eq .res (.lit (.bool true))).holds [] { args := args, res := some (.bool true), after := ds }) = true
  have e : (WTm.eq .res (.lit (.bool true))).value [] { args := args, res := some (.bool true), after := ds } = some (.bool (true == true)) := w_eq_bool (w_res rfl) w_lit
  unfold WTm.holds
  rw [e]
  simp [WShape.has, WShape.arms]
end Mine
open PySem PySem.W PyProof.Rows
set_option maxRecDepth 100000 in
set_option maxHeartbeats 8000000 in
theorem PySem.Challenge.cw_pd_principal_3_03_holds : PySem.Challenge.rw_pd_principal_3_03.Holds := by
  w_on
  o_law
  k_head
  case hw => w_witness2
  k_go0
  rename_i h1 tk1 F oR oL oS dR dL dS N0 X0
  have T := ‹Top _ _ _ _ _ _›
  have KX := ‹Frag.In _ _›
  have hL := ‹Heap.IsList _ _ _›
  have hI := ‹IntsAre _ _›
  have hcond := ‹¬ _ < _›
  have hg := ‹Shared.gens _ = #[]›
  have TR : TopRead _ _ _ _ _ := ⟨T.g, T.b, T.nolimit, T.builtins, T.free⟩
  have G := Mine.gl_of T KX (by rfl) (by
    intro x hx
    simp only [List.mem_cons, List.not_mem_nil, or_false] at hx
    rcases hx with rfl | rfl | rfl | rfl | rfl <;> k_is)
  have Oc := Mine.excAt_of (x := "ClashError") KX TR (by k_is) (by show excIn _ _ [.type "Exception", .type "BaseException", .type "object"] _ = true; k_exc) (by rfl)
  have Oo := Mine.excAt_of (x := "OccursError") KX TR (by k_is) (by show excIn _ _ [.type "Exception", .type "BaseException", .type "object"] _ = true; k_exc) (by rfl)
  have Of := Mine.excAt_of (x := "FuelError") KX TR (by k_is) (by show excIn _ _ [.type "Exception", .type "BaseException", .type "object"] _ = true; k_exc) (by rfl)
  have hM := mg_of (n := "_law_MAKERS") KX T.g (by k_is)
  have hS := mg_of (n := "_law_SHAPES") KX T.g (by k_is)
  obtain ⟨Z, a, eS⟩ := Mine.news_at F rfl N0
  have r0 := ‹Reads _ (Value.ref _) (PyData.list _) _›
  have X : Mine.Law PySem.Challenge.rw_pd_principal_3_03.row.prog ‹World› callerA _ _ _ _ _ _ _ _ _ _ := ⟨G, ⟨rfl, by decide, by decide⟩, rfl, Oc, Oo, Of, by decide, by decide, by decide, hM, Mine.readK_rd KX 1 _ _ (by rfl), hS, Mine.readK_rd KX 2 _ _ (by rfl), ⟨_, r0⟩, by omega⟩
  refine wpAny_mono (Mine.law_body X a dL dR ⟨oS, eS, dS⟩) (fun fl s' q => ?_) (fun _ _ q => q.elim)
  obtain ⟨rfl, h', tk', rfl, hs⟩ := q
  clear X r0 a eS hS hM Oc Oo Of G TR hcond hI hL T KX X0 N0 F dR dL dS
  refine ⟨.inl ⟨.bool true, .bool true, [], rfl, ?_, ?_, ?_, ?_⟩, hs, rfl, hg⟩
  · intro _; rfl
  · exact .bool true
  · exact Mine.post_true _ _ _
  · exact fun _ => ⟨List.nodup_nil, fun _ h => nomatch h⟩
