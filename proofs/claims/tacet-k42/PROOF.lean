import PyProof.Rows.All
import Wide.All
import OpenK.AllK
import Wide.FinOn
import KE.KRevSl
import HandS.ForMost
import HandS.TupMul
import HandS.TupAny
import KE.SortData
import KE.KDictSum
import HandS.Conv
import HandS.Deep
import HandS.More
import HandS.DictComp
import HandS.Defaults
import HandS.IsInst
import HandS.TupLen
import HandS.SetKeys
import HandS.Wide
import HandS.Evl
import PySem.Challenge.RW_tacet_k42_whole_closed_sets_are_closed
import HandS.Walk
import HandS.DictSub
import KE.KStateDown
import HandS.Head0
import HandS.Head1
import HandS.Head2
import HandS.HeadEnd
import HandS.HeadHook1
import HandS.HeadHook2
set_option Elab.async false
set_option linter.all false
set_option maxRecDepth 100000
set_option maxHeartbeats 4000000
namespace Tac
/-! plain mathematics: closed sets of configurations, no program in sight -/
abbrev Ed := Int × Int
abbrev El := Int × Int × Int × Int
abbrev Rl := Int × Int × Int
abbrev AutT := List (List Int)
abbrev MchT := List (List Rl)
/-- the row behind q and x -/
def nx (A : AutT) (q x : Int) : Int := ((A[q.toNat]?).getD [])[x.toNat]?.getD 0
/-- the rule number x of the row s -/
def rl (m : MchT) (s x : Int) : Rl := ((m[s.toNat]?).getD [])[x.toNat]?.getD (0, 1, -1)
def Lt (n : Nat) (q : Int) : Prop := 0 ≤ q ∧ q < (n : Int)
structure Aut (A : AutT) (k : Nat) : Prop where
  pos : 0 < A.length
  le : A.length ≤ 9
  row : ∀ r ∈ A, r.length = k ∧ ∀ v ∈ r, Lt A.length v
  zero : nx A 0 0 = 0
structure Mch (m : MchT) (ns k : Nat) : Prop where
  len : m.length = ns
  sPos : 0 < ns
  sLe : ns ≤ 4
  kLo : 2 ≤ k
  kHi : k ≤ 4
  row : ∀ r ∈ m, r.length = k ∧ ∀ u ∈ r, Lt k u.1 ∧ (u.2.1 = 1 ∨ u.2.1 = -1) ∧ -1 ≤ u.2.2 ∧ u.2.2 < (ns : Int)
theorem getD_mem {α : Type} {l : List α} {i : Nat} {d : α} (h : i < l.length) : (l[i]?).getD d ∈ l := by
  rw [List.getElem?_eq_getElem h]
  exact List.getElem_mem h
theorem Aut.nxR {A : AutT} {k : Nat} (h : Aut A k) {q x : Int} (hq : Lt A.length q) (hx : Lt k x) : Lt A.length (nx A q x) := by
  unfold nx
  have h1 : q.toNat < A.length := by unfold Lt at hq; omega
  have h2 := h.row _ (getD_mem (d := []) h1)
  have h3 : x.toNat < ((A[q.toNat]?).getD []).length := by rw [h2.1]; unfold Lt at hx; omega
  exact h2.2 _ (getD_mem (d := 0) h3)
theorem Mch.rlR {m : MchT} {ns k : Nat} (h : Mch m ns k) {s x : Int} (hs : Lt ns s) (hx : Lt k x) : Lt k (rl m s x).1 ∧ ((rl m s x).2.1 = 1 ∨ (rl m s x).2.1 = -1) ∧ -1 ≤ (rl m s x).2.2 ∧ (rl m s x).2.2 < (ns : Int) := by
  unfold rl
  have h1 : s.toNat < m.length := by rw [h.len]; unfold Lt at hs; omega
  have h2 := h.row _ (getD_mem (d := []) h1)
  have h3 : x.toNat < ((m[s.toNat]?).getD []).length := by rw [h2.1]; unfold Lt at hx; omega
  exact h2.2 _ (getD_mem (d := (0, 1, -1)) h3)

/-! ### a list without repetitions below a bound -/
theorem pigeon_aux : ∀ (n : Nat) (l : List Nat), l.Nodup → (∀ a ∈ l, a < n) → l.length ≤ n
  | 0, l, _, h => by
    cases l with
    | nil => exact Nat.le_refl _
    | cons a r => exact absurd (h a (List.mem_cons_self ..)) (Nat.not_lt_zero _)
  | n + 1, l, hn, h => by
    have h1 : (l.filter (fun a => decide (a ≠ n))).length ≤ n := by
      refine pigeon_aux n _ (hn.filter _) fun a ha => ?_
      have h2 := List.mem_filter.mp ha
      have h3 := h a h2.1
      have h4 : a ≠ n := of_decide_eq_true h2.2
      omega
    have h5 : l.length ≤ (l.filter (fun a => decide (a ≠ n))).length + 1 := by
      clear h h1
      induction l with
      | nil => exact Nat.zero_le _
      | cons a r ih =>
        obtain ⟨ha, hr⟩ := List.nodup_cons.mp hn
        by_cases e : a = n
        · have e2 : r.filter (fun a => decide (a ≠ n)) = r := List.filter_eq_self.mpr fun b hb => decide_eq_true fun e3 => ha (by rw [e, ← e3]; exact hb)
          rw [List.filter_cons_of_neg (by simp [e]), e2]
          exact Nat.le_refl _
        · rw [List.filter_cons_of_pos (by simp [e])]
          have := ih hr
          simp only [List.length_cons]
          omega
    omega
theorem pigeon {α : Type} {l : List α} {n : Nat} (f : α → Nat) (hn : l.Nodup) (hi : ∀ a ∈ l, ∀ b ∈ l, f a = f b → a = b) (hf : ∀ a ∈ l, f a < n) : l.length ≤ n := by
  have h1 : (l.map f).Nodup := by
    refine List.pairwise_map.mpr ?_
    have h2 : l.Pairwise (fun a b => a ≠ b) := hn
    refine List.Pairwise.imp_of_mem ?_ h2
    intro a b ha hb hne e
    exact hne (hi a ha b hb e)
  have h3 := pigeon_aux n (l.map f) h1 fun a ha => by
    obtain ⟨b, hb, rfl⟩ := List.mem_map.mp ha
    exact hf b hb
  rwa [List.length_map] at h3
theorem pigeon2 {l : List Ed} {a b : Nat} (hn : l.Nodup) (h : ∀ p ∈ l, Lt a p.1 ∧ Lt b p.2) : l.length ≤ a * b := by
  refine pigeon (fun p => p.1.toNat * b + p.2.toNat) hn (fun p hp q hq e => ?_) fun p hp => ?_
  · obtain ⟨⟨h1, h2⟩, h3, h4⟩ := h p hp
    obtain ⟨⟨h5, h6⟩, h7, h8⟩ := h q hq
    have e : p.1.toNat * b + p.2.toNat = q.1.toNat * b + q.2.toNat := e
    have e1 : p.1.toNat = q.1.toNat := by
      rcases Nat.lt_trichotomy p.1.toNat q.1.toNat with g | g | g
      · have : (p.1.toNat + 1) * b ≤ q.1.toNat * b := Nat.mul_le_mul_right _ g
        rw [Nat.succ_mul] at this
        omega
      · exact g
      · have : (q.1.toNat + 1) * b ≤ p.1.toNat * b := Nat.mul_le_mul_right _ g
        rw [Nat.succ_mul] at this
        omega
    rw [e1] at e
    have e2 : p.2.toNat = q.2.toNat := by omega
    obtain ⟨p1, p2⟩ := p
    obtain ⟨q1, q2⟩ := q
    simp only at *
    have a1 : p1 = q1 := by omega
    have a2 : p2 = q2 := by omega
    rw [a1, a2]
  · obtain ⟨⟨h1, h2⟩, h3, h4⟩ := h p hp
    have : (p.1.toNat + 1) * b ≤ a * b := Nat.mul_le_mul_right _ (by omega)
    rw [Nat.succ_mul] at this
    show p.1.toNat * b + p.2.toNat < a * b
    omega

/-! ### what closing knows: edges, the edges into a row, the askers of a row, elements, those that wait -/
structure CS where
  e : Bool → List Ed
  i : Bool → Int → List Ed
  a : Bool → Int → List Ed
  mem : List El
  wait : List El
def CS.init : CS := ⟨fun _ => [], fun _ _ => [], fun _ _ => [], [], []⟩
/-- one side's function changed -/
def ups {α : Type} (f : Bool → α) (b : Bool) (v : α) : Bool → α := fun c => if c = b then v else f c
def upt {α : Type} (f : Int → α) (t : Int) (v : α) : Int → α := fun u => if u = t then v else f u
@[simp] theorem ups_same {α : Type} (f : Bool → α) (b : Bool) (v : α) : ups f b v b = v := if_pos rfl
theorem ups_ne {α : Type} {f : Bool → α} {b c : Bool} {v : α} (h : c ≠ b) : ups f b v c = f c := if_neg h
@[simp] theorem upt_same {α : Type} (f : Int → α) (b : Int) (v : α) : upt f b v b = v := if_pos rfl
theorem upt_ne {α : Type} {f : Int → α} {b c : Int} {v : α} (h : c ≠ b) : upt f b v c = f c := if_neg h
def CS.addEl (S : CS) (x : El) : CS := if x ∈ S.mem then S else { S with mem := S.mem ++ [x], wait := S.wait ++ [x] }
/-- the element for a move to a side (true: right) over the edge (q, x) -/
def dem (b : Bool) (n f q x : Int) : El := if b = true then (n, f, x, q) else (q, f, x, n)
def CS.adds (S : CS) (l : List Ed) (g : Ed → El) : CS := l.foldl (fun S p => S.addEl (g p)) S
/-- the edge (q, x) of the side b is put in -/
def CS.putE (S : CS) (A : Bool → AutT) (b : Bool) (q x : Int) : CS :=
  { S with e := ups S.e b (S.e b ++ [(q, x)]), i := ups S.i b (upt (S.i b) (nx (A b) q x) (S.i b (nx (A b) q x) ++ [(q, x)])) }
def CS.addEdge (S : CS) (A : Bool → AutT) (b : Bool) (q x : Int) : CS :=
  if (q, x) ∈ S.e b then S else (S.putE A b q x).adds (S.a b (nx (A b) q x)) fun p => dem b p.1 p.2 q x
def CS.putA (S : CS) (b : Bool) (t n f : Int) : CS := { S with a := ups S.a b (upt (S.a b) t (S.a b t ++ [(n, f)])) }
def CS.ask (S : CS) (b : Bool) (t n f : Int) : CS := if (n, f) ∈ S.a b t then S else (S.putA b t n f).adds (S.i b t) fun p => dem b n f p.1 p.2
def CS.move (S : CS) (A : Bool → AutT) (b : Bool) (own target w f : Int) : CS :=
  (S.addEdge A (!b) own w).ask b target (nx (A (!b)) own w) f
/-- what an element asks for -/
def CS.turn (S : CS) (A : Bool → AutT) (m : MchT) (x : El) : CS :=
  if (rl m x.2.1 x.2.2.1).2.2 = -1 then S else
  if (rl m x.2.1 x.2.2.1).2.1 = 1 then S.move A true x.1 x.2.2.2 (rl m x.2.1 x.2.2.1).1 (rl m x.2.1 x.2.2.1).2.2
  else S.move A false x.2.2.2 x.1 (rl m x.2.1 x.2.2.1).1 (rl m x.2.1 x.2.2.1).2.2

/-! ### what stays -/
def ElR (A : Bool → AutT) (ns k : Nat) (x : El) : Prop := Lt (A false).length x.1 ∧ Lt ns x.2.1 ∧ Lt k x.2.2.1 ∧ Lt (A true).length x.2.2.2
structure Rng (A : Bool → AutT) (ns k : Nat) (S : CS) : Prop where
  eR : ∀ b, ∀ p ∈ S.e b, Lt (A b).length p.1 ∧ Lt k p.2
  eN : ∀ b, (S.e b).Nodup
  iX : ∀ b t p, p ∈ S.i b t ↔ p ∈ S.e b ∧ nx (A b) p.1 p.2 = t
  iN : ∀ b t, (S.i b t).Nodup
  aR : ∀ b t, ∀ p ∈ S.a b t, Lt (A (!b)).length p.1 ∧ Lt ns p.2
  aN : ∀ b t, (S.a b t).Nodup
  mR : ∀ x ∈ S.mem, ElR A ns k x
  mN : S.mem.Nodup
  wS : ∀ x ∈ S.wait, x ∈ S.mem
  wN : S.wait.Nodup
/-- every asker has its elements -/
def Dem (S : CS) : Prop := ∀ b t n f q x, (n, f) ∈ S.a b t → (q, x) ∈ S.i b t → dem b n f q x ∈ S.mem
/-- an element has asked -/
def Done (A : Bool → AutT) (m : MchT) (S : CS) (x : El) : Prop :=
  (rl m x.2.1 x.2.2.1).2.2 = -1 ∨
  ((rl m x.2.1 x.2.2.1).2.1 = 1 ∧ (x.1, (rl m x.2.1 x.2.2.1).1) ∈ S.e false ∧ (nx (A false) x.1 (rl m x.2.1 x.2.2.1).1, (rl m x.2.1 x.2.2.1).2.2) ∈ S.a true x.2.2.2) ∨
  ((rl m x.2.1 x.2.2.1).2.1 ≠ 1 ∧ (x.2.2.2, (rl m x.2.1 x.2.2.1).1) ∈ S.e true ∧ (nx (A true) x.2.2.2 (rl m x.2.1 x.2.2.1).1, (rl m x.2.1 x.2.2.1).2.2) ∈ S.a false x.1)
def Proc (A : Bool → AutT) (m : MchT) (S : CS) : Prop := ∀ x ∈ S.mem, x ∈ S.wait ∨ Done A m S x
structure Le (S T : CS) : Prop where
  e : ∀ b, ∀ p ∈ S.e b, p ∈ T.e b
  a : ∀ b t, ∀ p ∈ S.a b t, p ∈ T.a b t
  mem : ∀ x ∈ S.mem, x ∈ T.mem
  wait : ∀ x ∈ S.wait, x ∈ T.wait
  new : ∀ x ∈ T.mem, x ∈ S.mem ∨ x ∈ T.wait
theorem Le.refl (S : CS) : Le S S := ⟨fun _ _ h => h, fun _ _ _ h => h, fun _ h => h, fun _ h => h, fun _ h => .inl h⟩
theorem Le.trans {S T U : CS} (h : Le S T) (g : Le T U) : Le S U :=
  ⟨fun b p q => g.e b p (h.e b p q), fun b t p q => g.a b t p (h.a b t p q), fun x q => g.mem x (h.mem x q), fun x q => g.wait x (h.wait x q), fun x q => by
    rcases g.new x q with r | r
    · rcases h.new x r with u | u
      · exact .inl u
      · exact .inr (g.wait x u)
    · exact .inr r⟩
theorem Le.done {A : Bool → AutT} {m : MchT} {S T : CS} (h : Le S T) {x : El} (d : Done A m S x) : Done A m T x := by
  rcases d with d | ⟨d1, d2, d3⟩ | ⟨d1, d2, d3⟩
  · exact .inl d
  · exact .inr (.inl ⟨d1, h.e _ _ d2, h.a _ _ _ d3⟩)
  · exact .inr (.inr ⟨d1, h.e _ _ d2, h.a _ _ _ d3⟩)
theorem Le.proc {A : Bool → AutT} {m : MchT} {S T : CS} (h : Le S T) (d : Proc A m S) : Proc A m T := fun x hx => by
  rcases h.new x hx with q | q
  · rcases d x q with r | r
    · exact .inl (h.wait x r)
    · exact .inr (h.done r)
  · exact .inl q
section
variable {A : Bool → AutT} {m : MchT} {ns k : Nat} {S T : CS}
theorem nodup_snoc {α : Type} {l : List α} {x : α} (h : l.Nodup) (hx : x ∉ l) : (l ++ [x]).Nodup := by
  refine List.nodup_append.mpr ⟨h, List.nodup_cons.mpr ⟨by simp, List.nodup_nil⟩, fun a ha b hb e => ?_⟩
  have : b = x := by simpa using hb
  rw [e, this] at ha
  exact hx ha
/-! one element -/
theorem addEl_mem (S : CS) (x : El) : x ∈ (S.addEl x).mem := by
  unfold CS.addEl
  split
  · assumption
  · simp
theorem addEl_le (S : CS) (x : El) : Le S (S.addEl x) := by
  unfold CS.addEl
  split
  · exact Le.refl S
  · refine ⟨fun _ _ h => h, fun _ _ _ h => h, fun y h => List.mem_append_left _ h, fun y h => List.mem_append_left _ h, fun y h => ?_⟩
    rcases List.mem_append.mp h with q | q
    · exact .inl q
    · exact .inr (List.mem_append_right _ q)
theorem addEl_rest (S : CS) (x : El) : (S.addEl x).e = S.e ∧ (S.addEl x).i = S.i ∧ (S.addEl x).a = S.a := by
  unfold CS.addEl
  split <;> exact ⟨rfl, rfl, rfl⟩
theorem addEl_rng (R : Rng A ns k S) {x : El} (hx : ElR A ns k x) : Rng A ns k (S.addEl x) := by
  unfold CS.addEl
  split
  · exact R
  · rename_i h
    refine ⟨R.eR, R.eN, R.iX, R.iN, R.aR, R.aN, fun y hy => ?_, nodup_snoc R.mN h, fun y hy => ?_, nodup_snoc R.wN fun q => h (R.wS x q)⟩
    · rcases List.mem_append.mp hy with q | q
      · exact R.mR y q
      · have : y = x := by simpa using q
        rw [this]; exact hx
    · rcases List.mem_append.mp hy with q | q
      · exact List.mem_append_left _ (R.wS y q)
      · exact List.mem_append_right _ q
/-! several -/
theorem adds_nil (S : CS) (g : Ed → El) : S.adds [] g = S := rfl
theorem adds_snoc (S : CS) (l : List Ed) (p : Ed) (g : Ed → El) : S.adds (l ++ [p]) g = (S.adds l g).addEl (g p) := by
  unfold CS.adds
  rw [List.foldl_append]
  rfl
theorem adds_cons (S : CS) (l : List Ed) (p : Ed) (g : Ed → El) : S.adds (p :: l) g = (S.addEl (g p)).adds l g := rfl
theorem adds_le (g : Ed → El) : ∀ (l : List Ed) (S : CS), Le S (S.adds l g)
  | [], S => Le.refl S
  | p :: l, S => (addEl_le S (g p)).trans (adds_le g l (S.addEl (g p)))
theorem adds_mem (g : Ed → El) : ∀ (l : List Ed) (S : CS), ∀ p ∈ l, g p ∈ (S.adds l g).mem
  | [], _, _, h => by cases h
  | q :: l, S, p, h => by
    rw [adds_cons]
    rcases List.mem_cons.mp h with e | e
    · rw [e]
      exact (adds_le g l _).mem _ (addEl_mem S (g q))
    · exact adds_mem g l _ p e
theorem adds_rest (g : Ed → El) : ∀ (l : List Ed) (S : CS), (S.adds l g).e = S.e ∧ (S.adds l g).i = S.i ∧ (S.adds l g).a = S.a
  | [], _ => ⟨rfl, rfl, rfl⟩
  | q :: l, S => by
    rw [adds_cons]
    obtain ⟨h1, h2, h3⟩ := adds_rest g l (S.addEl (g q))
    obtain ⟨h4, h5, h6⟩ := addEl_rest S (g q)
    exact ⟨h1.trans h4, h2.trans h5, h3.trans h6⟩
theorem adds_rng (g : Ed → El) : ∀ (l : List Ed) {S : CS}, Rng A ns k S → (∀ p ∈ l, ElR A ns k (g p)) → Rng A ns k (S.adds l g)
  | [], _, R, _ => R
  | q :: l, S, R, h => by
    rw [adds_cons]
    exact adds_rng g l (addEl_rng R (h q (List.mem_cons_self ..))) fun p hp => h p (List.mem_cons_of_mem _ hp)
theorem dem_rng {b : Bool} {n f q x : Int} (hn : Lt (A (!b)).length n) (hf : Lt ns f) (hq : Lt (A b).length q) (hx : Lt k x) : ElR A ns k (dem b n f q x) := by
  cases b with
  | true => exact ⟨hn, hf, hx, hq⟩
  | false => exact ⟨hq, hf, hx, hn⟩
/-! an edge -/
theorem putE_rng (hA : ∀ b, Aut (A b) k) (R : Rng A ns k S) {b : Bool} {q x : Int} (hq : Lt (A b).length q) (hx : Lt k x) (h : (q, x) ∉ S.e b) : Rng A ns k (S.putE A b q x) := by
  have hi : (q, x) ∉ S.i b (nx (A b) q x) := fun z => h ((R.iX _ _ _).mp z).1
  refine ⟨fun c p hp => ?_, fun c => ?_, fun c t p => ?_, fun c t => ?_, R.aR, R.aN, R.mR, R.mN, R.wS, R.wN⟩
  · by_cases e : c = b
    · subst e
      have hp : p ∈ ups S.e c (S.e c ++ [(q, x)]) c := hp
      rw [ups_same] at hp
      rcases List.mem_append.mp hp with z | z
      · exact R.eR c p z
      · have : p = (q, x) := by simpa using z
        rw [this]; exact ⟨hq, hx⟩
    · have hp : p ∈ ups S.e b (S.e b ++ [(q, x)]) c := hp
      rw [ups_ne e] at hp
      exact R.eR c p hp
  · show (ups S.e b (S.e b ++ [(q, x)]) c).Nodup
    by_cases e : c = b
    · subst e
      rw [ups_same]
      exact nodup_snoc (R.eN c) h
    · rw [ups_ne e]
      exact R.eN c
  · show p ∈ ups S.i b (upt (S.i b) (nx (A b) q x) (S.i b (nx (A b) q x) ++ [(q, x)])) c t ↔ p ∈ ups S.e b (S.e b ++ [(q, x)]) c ∧ nx (A c) p.1 p.2 = t
    by_cases e : c = b
    · subst e
      rw [ups_same, ups_same]
      by_cases et : t = nx (A c) q x
      · subst et
        rw [upt_same]
        constructor
        · intro z
          rcases List.mem_append.mp z with z | z
          · exact ⟨List.mem_append_left _ ((R.iX _ _ _).mp z).1, ((R.iX _ _ _).mp z).2⟩
          · have : p = (q, x) := by simpa using z
            subst this
            exact ⟨List.mem_append_right _ z, rfl⟩
        · rintro ⟨z, w⟩
          rcases List.mem_append.mp z with z | z
          · exact List.mem_append_left _ ((R.iX _ _ _).mpr ⟨z, w⟩)
          · exact List.mem_append_right _ z
      · rw [upt_ne et]
        constructor
        · intro z
          exact ⟨List.mem_append_left _ ((R.iX _ _ _).mp z).1, ((R.iX _ _ _).mp z).2⟩
        · rintro ⟨z, w⟩
          rcases List.mem_append.mp z with z | z
          · exact (R.iX _ _ _).mpr ⟨z, w⟩
          · have : p = (q, x) := by simpa using z
            subst this
            exact absurd w.symm et
    · rw [ups_ne e, ups_ne e]
      exact R.iX c t p
  · show (ups S.i b (upt (S.i b) (nx (A b) q x) (S.i b (nx (A b) q x) ++ [(q, x)])) c t).Nodup
    by_cases e : c = b
    · subst e
      rw [ups_same]
      by_cases et : t = nx (A c) q x
      · rw [et, upt_same]
        exact nodup_snoc (R.iN c _) hi
      · rw [upt_ne et]
        exact R.iN c t
    · rw [ups_ne e]
      exact R.iN c t
theorem putE_le (S : CS) (b : Bool) (q x : Int) : Le S (S.putE A b q x) := by
  refine ⟨fun c p hp => ?_, fun _ _ _ h => h, fun _ h => h, fun _ h => h, fun _ h => .inl h⟩
  show p ∈ ups S.e b (S.e b ++ [(q, x)]) c
  by_cases e : c = b
  · subst e
    rw [ups_same]
    exact List.mem_append_left _ hp
  · rw [ups_ne e]
    exact hp
theorem addEdge_rng (hA : ∀ b, Aut (A b) k) (R : Rng A ns k S) {b : Bool} {q x : Int} (hq : Lt (A b).length q) (hx : Lt k x) : Rng A ns k (S.addEdge A b q x) := by
  unfold CS.addEdge
  split
  · exact R
  · rename_i h
    refine adds_rng _ _ (putE_rng hA R hq hx h) fun p hp => ?_
    obtain ⟨h1, h2⟩ := R.aR _ _ p hp
    exact dem_rng h1 h2 hq hx
theorem addEdge_le (S : CS) (b : Bool) (q x : Int) : Le S (S.addEdge A b q x) := by
  unfold CS.addEdge
  split
  · exact Le.refl S
  · exact (putE_le S b q x).trans (adds_le _ _ _)
theorem addEdge_has (S : CS) (b : Bool) (q x : Int) : (q, x) ∈ (S.addEdge A b q x).e b := by
  unfold CS.addEdge
  split
  · assumption
  · rw [(adds_rest _ _ _).1]
    show (q, x) ∈ ups S.e b (S.e b ++ [(q, x)]) b
    rw [ups_same]
    simp
theorem addEdge_dem (D : Dem S) (b : Bool) (q x : Int) : Dem (S.addEdge A b q x) := by
  unfold CS.addEdge
  split
  · exact D
  · rename_i h
    intro c t n f q' x' h1 h2
    obtain ⟨r1, r2, r3⟩ := adds_rest (fun p => dem b p.1 p.2 q x) (S.a b (nx (A b) q x)) (S.putE A b q x)
    rw [r3] at h1
    rw [r2] at h2
    have h1 : (n, f) ∈ S.a c t := h1
    have h2 : (q', x') ∈ ups S.i b (upt (S.i b) (nx (A b) q x) (S.i b (nx (A b) q x) ++ [(q, x)])) c t := h2
    have old : (q', x') ∈ S.i c t → dem c n f q' x' ∈ ((S.putE A b q x).adds (S.a b (nx (A b) q x)) fun p => dem b p.1 p.2 q x).mem := fun z =>
      (adds_le _ _ _).mem _ (show dem c n f q' x' ∈ S.mem from D c t n f q' x' h1 z)
    by_cases e : c = b
    · subst e
      rw [ups_same] at h2
      by_cases et : t = nx (A c) q x
      · subst et
        rw [upt_same] at h2
        rcases List.mem_append.mp h2 with z | z
        · exact old z
        · have z : (q', x') = (q, x) := by simpa using z
          cases z
          exact adds_mem (fun p => dem c p.1 p.2 q x) _ _ (n, f) h1
      · rw [upt_ne et] at h2
        exact old h2
    · rw [ups_ne e] at h2
      exact old h2
/-! an asker -/
theorem putA_le (S : CS) (b : Bool) (t n f : Int) : Le S (S.putA b t n f) := by
  refine ⟨fun _ _ h => h, fun c u p hp => ?_, fun _ h => h, fun _ h => h, fun _ h => .inl h⟩
  show p ∈ ups S.a b (upt (S.a b) t (S.a b t ++ [(n, f)])) c u
  by_cases e : c = b
  · subst e
    rw [ups_same]
    by_cases et : u = t
    · subst et
      rw [upt_same]
      exact List.mem_append_left _ hp
    · rw [upt_ne et]
      exact hp
  · rw [ups_ne e]
    exact hp
theorem putA_rng (R : Rng A ns k S) {b : Bool} {t n f : Int} (hn : Lt (A (!b)).length n) (hf : Lt ns f) (h : (n, f) ∉ S.a b t) : Rng A ns k (S.putA b t n f) := by
  refine ⟨R.eR, R.eN, R.iX, R.iN, fun c u p hp => ?_, fun c u => ?_, R.mR, R.mN, R.wS, R.wN⟩
  · have hp : p ∈ ups S.a b (upt (S.a b) t (S.a b t ++ [(n, f)])) c u := hp
    by_cases e : c = b
    · subst e
      rw [ups_same] at hp
      by_cases et : u = t
      · subst et
        rw [upt_same] at hp
        rcases List.mem_append.mp hp with z | z
        · exact R.aR _ _ p z
        · have : p = (n, f) := by simpa using z
          rw [this]; exact ⟨hn, hf⟩
      · rw [upt_ne et] at hp
        exact R.aR _ _ p hp
    · rw [ups_ne e] at hp
      exact R.aR _ _ p hp
  · show (ups S.a b (upt (S.a b) t (S.a b t ++ [(n, f)])) c u).Nodup
    by_cases e : c = b
    · subst e
      rw [ups_same]
      by_cases et : u = t
      · subst et
        rw [upt_same]
        exact nodup_snoc (R.aN _ _) h
      · rw [upt_ne et]
        exact R.aN _ _
    · rw [ups_ne e]
      exact R.aN _ _
theorem ask_rng (R : Rng A ns k S) {b : Bool} {t n f : Int} (hn : Lt (A (!b)).length n) (hf : Lt ns f) : Rng A ns k (S.ask b t n f) := by
  unfold CS.ask
  split
  · exact R
  · rename_i h
    refine adds_rng _ _ (putA_rng R hn hf h) fun p hp => ?_
    obtain ⟨h1, h2⟩ := R.eR _ p ((R.iX _ _ _).mp hp).1
    exact dem_rng hn hf h1 h2
theorem ask_le (S : CS) (b : Bool) (t n f : Int) : Le S (S.ask b t n f) := by
  unfold CS.ask
  split
  · exact Le.refl S
  · exact (putA_le S b t n f).trans (adds_le _ _ _)
theorem ask_has (S : CS) (b : Bool) (t n f : Int) : (n, f) ∈ (S.ask b t n f).a b t := by
  unfold CS.ask
  split
  · assumption
  · rw [(adds_rest _ _ _).2.2]
    show (n, f) ∈ ups S.a b (upt (S.a b) t (S.a b t ++ [(n, f)])) b t
    rw [ups_same, upt_same]
    simp
theorem ask_dem (D : Dem S) (b : Bool) (t n f : Int) : Dem (S.ask b t n f) := by
  unfold CS.ask
  split
  · exact D
  · rename_i h
    intro c u n' f' q x h1 h2
    obtain ⟨r1, r2, r3⟩ := adds_rest (fun p => dem b n f p.1 p.2) (S.i b t) (S.putA b t n f)
    rw [r3] at h1
    rw [r2] at h2
    have h2 : (q, x) ∈ S.i c u := h2
    have h1 : (n', f') ∈ ups S.a b (upt (S.a b) t (S.a b t ++ [(n, f)])) c u := h1
    have old : (n', f') ∈ S.a c u → dem c n' f' q x ∈ ((S.putA b t n f).adds (S.i b t) fun p => dem b n f p.1 p.2).mem := fun z =>
      (adds_le _ _ _).mem _ (show dem c n' f' q x ∈ S.mem from D c u n' f' q x z h2)
    by_cases e : c = b
    · subst e
      rw [ups_same] at h1
      by_cases et : u = t
      · subst et
        rw [upt_same] at h1
        rcases List.mem_append.mp h1 with z | z
        · exact old z
        · have z : (n', f') = (n, f) := by simpa using z
          cases z
          exact adds_mem (fun p => dem c n f p.1 p.2) _ _ (q, x) h2
      · rw [upt_ne et] at h1
        exact old h1
    · rw [ups_ne e] at h1
      exact old h1
/-! a move, a turn -/
theorem move_rng (hA : ∀ b, Aut (A b) k) (R : Rng A ns k S) {b : Bool} {own t w f : Int} (ho : Lt (A (!b)).length own) (hw : Lt k w) (hf : Lt ns f) : Rng A ns k (S.move A b own t w f) :=
  ask_rng (addEdge_rng hA R ho hw) ((hA _).nxR ho hw) hf
theorem move_le (S : CS) (b : Bool) (own t w f : Int) : Le S (S.move A b own t w f) := (addEdge_le S _ _ _).trans (ask_le _ _ _ _ _)
theorem move_dem (D : Dem S) (b : Bool) (own t w f : Int) : Dem (S.move A b own t w f) := ask_dem (addEdge_dem D _ _ _) _ _ _ _
theorem move_has (S : CS) (b : Bool) (own t w f : Int) : (own, w) ∈ (S.move A b own t w f).e (!b) ∧ (nx (A (!b)) own w, f) ∈ (S.move A b own t w f).a b t :=
  ⟨(ask_le _ _ _ _ _).e _ _ (addEdge_has S _ _ _), ask_has _ _ _ _ _⟩
theorem turn_le (S : CS) (x : El) : Le S (S.turn A m x) := by
  unfold CS.turn
  split
  · exact Le.refl S
  · split <;> exact move_le _ _ _ _ _ _
theorem turn_rng (hA : ∀ b, Aut (A b) k) (hM : Mch m ns k) (R : Rng A ns k S) {x : El} (hx : ElR A ns k x) : Rng A ns k (S.turn A m x) := by
  obtain ⟨x1, x2, x3, x4⟩ := hx
  obtain ⟨r1, r2, r3, r4⟩ := hM.rlR x2 x3
  unfold CS.turn
  split
  · exact R
  · have hf : Lt ns (rl m x.2.1 x.2.2.1).2.2 := ⟨by omega, r4⟩
    split
    · exact move_rng hA R (b := true) x1 r1 hf
    · exact move_rng hA R (b := false) x4 r1 hf
theorem turn_dem (D : Dem S) (x : El) : Dem (S.turn A m x) := by
  unfold CS.turn
  split
  · exact D
  · split <;> exact move_dem D _ _ _ _ _
theorem turn_done (S : CS) (x : El) : Done A m (S.turn A m x) x := by
  unfold CS.turn Done
  split
  · exact .inl (by assumption)
  · split
    · refine .inr (.inl ⟨by assumption, ?_⟩)
      exact move_has S true _ _ _ _
    · refine .inr (.inr ⟨by assumption, ?_⟩)
      exact move_has S false _ _ _ _
/-- the last one that waits is taken -/
def CS.popped (S : CS) : CS := { S with wait := S.wait.dropLast }
theorem popped_rng (R : Rng A ns k S) : Rng A ns k S.popped := ⟨R.eR, R.eN, R.iX, R.iN, R.aR, R.aN, R.mR, R.mN, fun x h => R.wS x ((List.dropLast_sublist _).mem h), R.wN.sublist (List.dropLast_sublist _)⟩
theorem popped_proc {x : El} (h : S.wait.getLast? = some x) (p : Proc A m S) : Proc A m (S.popped.turn A m x) := by
  have hl := turn_le (A := A) (m := m) S.popped x
  intro y hy
  rcases hl.new y hy with q | q
  · rcases p y q with r | r
    · by_cases e : y = x
      · rw [e]
        exact .inr (turn_done _ _)
      · refine .inl (hl.wait y ?_)
        show y ∈ S.wait.dropLast
        have e2 : S.wait.dropLast ++ [x] = S.wait := by
          have ne : S.wait ≠ [] := fun e3 => by
            rw [e3] at h
            cases h
          have e3 := List.dropLast_concat_getLast ne
          have e4 : S.wait.getLast ne = x := by
            rw [List.getLast?_eq_some_getLast ne] at h
            exact Option.some.inj h
          rw [e4] at e3
          exact e3
        rw [← e2] at r
        rcases List.mem_append.mp r with z | z
        · exact z
        · exact absurd (by simpa using z) e
    · exact .inr (hl.done r)
  · exact .inl q
/-- how many elements there may be -/
theorem Rng.memLen (R : Rng A ns k S) : S.mem.length ≤ (A false).length * ns * (k * (A true).length) := by
  have h := pigeon (l := S.mem) (n := (A false).length * ns * (k * (A true).length)) (fun x => (x.1.toNat * ns + x.2.1.toNat) * (k * (A true).length) + (x.2.2.1.toNat * (A true).length + x.2.2.2.toNat)) R.mN
    (fun x hx y hy e => ?_) fun x hx => ?_
  · exact h
  · obtain ⟨⟨a1, a2⟩, ⟨a3, a4⟩, ⟨a5, a6⟩, a7, a8⟩ := R.mR x hx
    obtain ⟨⟨b1, b2⟩, ⟨b3, b4⟩, ⟨b5, b6⟩, b7, b8⟩ := R.mR y hy
    have in_ : ∀ {a b c d n : Nat}, b < n → d < n → a * n + b = c * n + d → a = c ∧ b = d := fun {a b c d n} hb hd e => by
      have e1 : a = c := by
        rcases Nat.lt_trichotomy a c with g | g | g
        · have : (a + 1) * n ≤ c * n := Nat.mul_le_mul_right _ g
          rw [Nat.succ_mul] at this
          omega
        · exact g
        · have : (c + 1) * n ≤ a * n := Nat.mul_le_mul_right _ g
          rw [Nat.succ_mul] at this
          omega
      rw [e1] at e
      exact ⟨e1, by omega⟩
    have bd : ∀ {a b n l : Nat}, a < n → b < l → a * l + b < n * l := fun {a b n l} ha hb => by
      have : (a + 1) * l ≤ n * l := Nat.mul_le_mul_right _ ha
      rw [Nat.succ_mul] at this
      omega
    obtain ⟨e1, e2⟩ := in_ (bd (by omega) (by omega)) (bd (by omega) (by omega)) e
    obtain ⟨e3, e4⟩ := in_ (by omega) (by omega) e1
    obtain ⟨e5, e6⟩ := in_ (by omega) (by omega) e2
    obtain ⟨x1, x2, x3, x4⟩ := x
    obtain ⟨y1, y2, y3, y4⟩ := y
    simp only at *
    have f1 : x1 = y1 := by omega
    have f2 : x2 = y2 := by omega
    have f3 : x3 = y3 := by omega
    have f4 : x4 = y4 := by omega
    rw [f1, f2, f3, f4]
  · obtain ⟨⟨a1, a2⟩, ⟨a3, a4⟩, ⟨a5, a6⟩, a7, a8⟩ := R.mR x hx
    have bd : ∀ {a b n l : Nat}, a < n → b < l → a * l + b < n * l := fun {a b n l} ha hb => by
      have : (a + 1) * l ≤ n * l := Nat.mul_le_mul_right _ ha
      rw [Nat.succ_mul] at this
      omega
    exact bd (bd (by omega) (by omega)) (bd (by omega) (by omega))
theorem Rng.waitLen (R : Rng A ns k S) : S.wait.length ≤ S.mem.length := by
  have h1 : ∀ x ∈ S.wait, x ∈ S.mem := R.wS
  have h2 := R.wN
  generalize S.wait = l at h1 h2
  have h3 := R.mN
  generalize S.mem = n at h1 h3
  clear R
  induction l generalizing n with
  | nil => exact Nat.zero_le _
  | cons a r ih =>
    obtain ⟨g1, g2⟩ := List.nodup_cons.mp h2
    have g3 : a ∈ n := h1 a (List.mem_cons_self ..)
    have g4 := ih g2 (n.erase a) (fun x hx => by
      have : x ≠ a := fun e => g1 (e ▸ hx)
      exact (List.mem_erase_of_ne this).mpr (h1 x (List.mem_cons_of_mem _ hx))) (h3.erase a)
    have g5 := List.length_erase_of_mem g3
    have g6 := List.length_pos_of_mem g3
    simp only [List.length_cons]
    omega
theorem Rng.eLen (R : Rng A ns k S) (b : Bool) : (S.e b).length ≤ (A b).length * k := pigeon2 (R.eN b) fun p hp => R.eR b p hp
theorem Rng.iLen (R : Rng A ns k S) (b : Bool) (t : Int) : (S.i b t).length ≤ (A b).length * k := pigeon2 (R.iN b t) fun p hp => R.eR b p ((R.iX b t p).mp hp).1
theorem Rng.aLen (R : Rng A ns k S) (b : Bool) (t : Int) : (S.a b t).length ≤ (A (!b)).length * ns := pigeon2 (R.aN b t) fun p hp => R.aR b t p hp
end
end Tac
namespace Tac
/-! ### reading -/
def rd (A : AutT) (q : Int) (xs : List Int) : Int := xs.foldl (nx A) q
def okE (A : AutT) (E : List Ed) : Int → List Int → Prop
  | _, [] => True
  | q, x :: r => (q, x) ∈ E ∧ okE A E (nx A q x) r
theorem rd_append (A : AutT) (q : Int) (xs ys : List Int) : rd A q (xs ++ ys) = rd A (rd A q xs) ys := by unfold rd; rw [List.foldl_append]
theorem rd_one (A : AutT) (q x : Int) : rd A q [x] = nx A q x := rfl
theorem okE_append (A : AutT) (E : List Ed) : ∀ (xs ys : List Int) (q : Int), okE A E q (xs ++ ys) ↔ okE A E q xs ∧ okE A E (rd A q xs) ys
  | [], ys, q => ⟨fun h => ⟨trivial, h⟩, fun h => h.2⟩
  | x :: r, ys, q => by
    show ((q, x) ∈ E ∧ okE A E (nx A q x) (r ++ ys)) ↔ ((q, x) ∈ E ∧ okE A E (nx A q x) r) ∧ okE A E (rd A (nx A q x) r) ys
    rw [okE_append A E r ys (nx A q x), and_assoc]
theorem okE_one (A : AutT) (E : List Ed) (q x : Int) : okE A E q [x] ↔ (q, x) ∈ E := ⟨fun h => h.1, fun h => ⟨h, trivial⟩⟩
theorem rd_zeros {A : AutT} (h : nx A 0 0 = 0) (n : Nat) : rd A 0 (List.replicate n 0) = 0 := by
  induction n with
  | zero => rfl
  | succ n ih =>
    show rd A (nx A 0 0) (List.replicate n 0) = 0
    rw [h]; exact ih
theorem okE_zeros {A : AutT} {E : List Ed} (h : nx A 0 0 = 0) (hE : ((0, 0) : Ed) ∈ E) (n : Nat) : okE A E 0 (List.replicate n 0) := by
  induction n with
  | zero => exact trivial
  | succ n ih =>
    refine ⟨hE, ?_⟩
    rw [h]; exact ih
theorem rd_pad {A : AutT} (h : nx A 0 0 = 0) (n : Nat) (xs : List Int) : rd A 0 (List.replicate n 0 ++ xs) = rd A 0 xs := by rw [rd_append, rd_zeros h]
theorem okE_pad {A : AutT} {E : List Ed} (h : nx A 0 0 = 0) (hE : ((0, 0) : Ed) ∈ E) (n : Nat) (xs : List Int) : okE A E 0 (List.replicate n 0 ++ xs) ↔ okE A E 0 xs := by
  rw [okE_append, rd_zeros h]
  exact ⟨fun q => q.2, fun q => ⟨okE_zeros h hE n, q⟩⟩
/-! ### a tape: its cells by place -/
/-- the cells from lo on, ahead of p -/
def cut (c : Int → Int) (lo p : Int) : List Int := (List.range (p - lo).toNat).map fun (i : Nat) => c (lo + (i : Int))
def leftL (c : Int → Int) (lo p : Int) : List Int := cut c lo p
/-- the cells from hi down to the one behind p -/
def rightL (c : Int → Int) (p hi : Int) : List Int := (cut c (p + 1) (hi + 1)).reverse
theorem cut_len (c : Int → Int) (lo p : Int) : (cut c lo p).length = (p - lo).toNat := by simp [cut]
theorem cut_get (c : Int → Int) (lo p : Int) (i : Nat) (h : i < (cut c lo p).length) : (cut c lo p)[i] = c (lo + (i : Int)) := by simp [cut]
theorem cut_cut (c : Int → Int) {a b d : Int} (h1 : a ≤ b) (h2 : b ≤ d) : cut c a d = cut c a b ++ cut c b d := by
  refine List.ext_getElem (by rw [List.length_append, cut_len, cut_len, cut_len]; omega) fun i h3 h4 => ?_
  rw [cut_get]
  rw [cut_len] at h3
  by_cases h : i < (cut c a b).length
  · rw [List.getElem_append_left h, cut_get]
  · rw [List.getElem_append_right (Nat.le_of_not_lt h), cut_get]
    rw [cut_len] at h ⊢
    congr 1
    omega
theorem cut_nil (c : Int → Int) {a b : Int} (h : b ≤ a) : cut c a b = [] := List.length_eq_zero_iff.mp (by rw [cut_len]; omega)
theorem cut_one (c : Int → Int) (a : Int) : cut c a (a + 1) = [c a] := by
  unfold cut
  have e : (a + 1 - a).toNat = 1 := by omega
  rw [e]
  show [c (a + ((0 : Nat) : Int))] = [c a]
  rw [show a + ((0 : Nat) : Int) = a by omega]
theorem cut_congr {c d : Int → Int} {a b : Int} (h : ∀ x, a ≤ x → x < b → c x = d x) : cut c a b = cut d a b := by
  refine List.ext_getElem (by rw [cut_len, cut_len]) fun i h3 h4 => ?_
  rw [cut_get, cut_get]
  rw [cut_len] at h3
  exact h _ (by omega) (by omega)
theorem cut_zero {c : Int → Int} {a b : Int} (h : ∀ x, a ≤ x → x < b → c x = 0) : cut c a b = List.replicate (b - a).toNat 0 := by
  refine List.ext_getElem (by rw [cut_len, List.length_replicate]) fun i h3 h4 => ?_
  rw [cut_get, List.getElem_replicate]
  rw [cut_len] at h3
  exact h _ (by omega) (by omega)
/-- blank below lo -/
theorem leftL_pad {c : Int → Int} {lo lo2 p : Int} (h : ∀ x, x < lo → c x = 0) (hl : lo2 ≤ lo) : ∃ n, leftL c lo2 p = List.replicate n 0 ++ leftL c lo p := by
  unfold leftL
  by_cases h1 : lo ≤ p
  · exact ⟨(lo - lo2).toNat, by rw [cut_cut c hl h1, cut_zero fun x _ q => h x q]⟩
  · exact ⟨(p - lo2).toNat, by rw [cut_nil c (a := lo) (b := p) (by omega), List.append_nil, cut_zero fun x _ q => h x (by omega)]⟩
theorem rightL_pad {c : Int → Int} {p hi hi2 : Int} (h : ∀ x, hi < x → c x = 0) (hl : hi ≤ hi2) : ∃ n, rightL c p hi2 = List.replicate n 0 ++ rightL c p hi := by
  unfold rightL
  by_cases h1 : p ≤ hi
  · refine ⟨(hi2 + 1 - (hi + 1)).toNat, ?_⟩
    rw [cut_cut c (show p + 1 ≤ hi + 1 by omega) (show hi + 1 ≤ hi2 + 1 by omega), List.reverse_append, cut_zero (a := hi + 1) (b := hi2 + 1) fun x q _ => h x (by omega), List.reverse_replicate]
  · refine ⟨(hi2 + 1 - (p + 1)).toNat, ?_⟩
    rw [cut_nil c (a := p + 1) (b := hi + 1) (by omega), List.reverse_nil, List.append_nil, cut_zero (a := p + 1) (b := hi2 + 1) fun x q _ => h x (by omega), List.reverse_replicate]
/-! ### a closed set -/
structure Right (A : Bool → AutT) (m : MchT) (ns k : Nat) (E : Bool → List Ed) (M : List El) : Prop where
  aut : ∀ b, Aut (A b) k
  mch : Mch m ns k
  eR : ∀ b, ∀ p ∈ E b, Lt (A b).length p.1 ∧ Lt k p.2
  mR : ∀ x ∈ M, ElR A ns k x
  e0 : ∀ b, ((0, 0) : Ed) ∈ E b
  m0 : ((0, 0, 0, 0) : El) ∈ M
  go : ∀ x ∈ M, (rl m x.2.1 x.2.2.1).2.2 ≠ -1
  rt : ∀ x ∈ M, (rl m x.2.1 x.2.2.1).2.1 = 1 → (x.1, (rl m x.2.1 x.2.2.1).1) ∈ E false ∧
    ∀ q y, (q, y) ∈ E true → nx (A true) q y = x.2.2.2 → (nx (A false) x.1 (rl m x.2.1 x.2.2.1).1, (rl m x.2.1 x.2.2.1).2.2, y, q) ∈ M
  lt : ∀ x ∈ M, (rl m x.2.1 x.2.2.1).2.1 ≠ 1 → (x.2.2.2, (rl m x.2.1 x.2.2.1).1) ∈ E true ∧
    ∀ q y, (q, y) ∈ E false → nx (A false) q y = x.1 → (q, (rl m x.2.1 x.2.2.1).2.2, y, nx (A true) x.2.2.2 (rl m x.2.1 x.2.2.1).1) ∈ M
/-- what closing ends with -/
theorem Right.of {A : Bool → AutT} {m : MchT} {ns k : Nat} {S : CS} {E : Bool → List Ed} {M : List El} (hA : ∀ b, Aut (A b) k) (hM : Mch m ns k) (R : Rng A ns k S) (D : Dem S) (P : Proc A m S) (hw : S.wait = [])
    (h0 : ∀ b, ((0, 0) : Ed) ∈ S.e b) (h1 : ((0, 0, 0, 0) : El) ∈ S.mem) (hg : ∀ x ∈ S.mem, (rl m x.2.1 x.2.2.1).2.2 ≠ -1) (hE : ∀ b p, p ∈ E b ↔ p ∈ S.e b) (hMm : ∀ x, x ∈ M ↔ x ∈ S.mem) : Right A m ns k E M := by
  have done : ∀ x ∈ S.mem, Done A m S x := fun x hx => (P x hx).resolve_left (by rw [hw]; simp)
  refine ⟨hA, hM, fun b p hp => R.eR b p ((hE b p).mp hp), fun x hx => R.mR x ((hMm x).mp hx), fun b => (hE b _).mpr (h0 b), (hMm _).mpr h1, fun x hx => hg x ((hMm x).mp hx), fun x hx h => ?_, fun x hx h => ?_⟩
  · rcases done x ((hMm x).mp hx) with d | ⟨d1, d2, d3⟩ | ⟨d1, d2, d3⟩
    · exact absurd d (hg x ((hMm x).mp hx))
    · exact ⟨(hE _ _).mpr d2, fun q y z e => (hMm _).mpr (D true _ _ _ q y d3 ((R.iX _ _ _).mpr ⟨(hE _ _).mp z, e⟩))⟩
    · exact absurd h d1
  · rcases done x ((hMm x).mp hx) with d | ⟨d1, d2, d3⟩ | ⟨d1, d2, d3⟩
    · exact absurd d (hg x ((hMm x).mp hx))
    · exact absurd d1 h
    · exact ⟨(hE _ _).mpr d2, fun q y z e => (hMm _).mpr (D false _ _ _ q y d3 ((R.iX _ _ _).mpr ⟨(hE _ _).mp z, e⟩))⟩
/-- the configuration (s, p, c) belongs, read from lo and from hi -/
def Bel (A : Bool → AutT) (E : Bool → List Ed) (M : List El) (s p : Int) (c : Int → Int) (lo hi : Int) : Prop :=
  okE (A false) (E false) 0 (leftL c lo p) ∧ okE (A true) (E true) 0 (rightL c p hi) ∧ (rd (A false) 0 (leftL c lo p), s, c p, rd (A true) 0 (rightL c p hi)) ∈ M
/-- blank outside of lo .. hi -/
def Fits (c : Int → Int) (lo hi : Int) : Prop := (∀ x, x < lo → c x = 0) ∧ ∀ x, hi < x → c x = 0
section
variable {A : Bool → AutT} {m : MchT} {ns k : Nat} {E : Bool → List Ed} {M : List El}
theorem Bel.wide (R : Right A m ns k E M) {s p : Int} {c : Int → Int} {lo hi lo2 hi2 : Int} (f : Fits c lo hi) (h1 : lo2 ≤ lo) (h2 : hi ≤ hi2) : Bel A E M s p c lo2 hi2 ↔ Bel A E M s p c lo hi := by
  obtain ⟨n1, e1⟩ := leftL_pad (p := p) f.1 h1
  obtain ⟨n2, e2⟩ := rightL_pad (p := p) f.2 h2
  unfold Bel
  rw [e1, e2, rd_pad (R.aut _).zero, rd_pad (R.aut _).zero, okE_pad (R.aut _).zero (R.e0 _), okE_pad (R.aut _).zero (R.e0 _)]
theorem Bel.any (R : Right A m ns k E M) {s p : Int} {c : Int → Int} {lo hi lo2 hi2 : Int} (f : Fits c lo hi) (g : Fits c lo2 hi2) (h : Bel A E M s p c lo hi) : Bel A E M s p c lo2 hi2 := by
  have h1 : min lo lo2 ≤ lo := Int.min_le_left ..
  have h2 : min lo lo2 ≤ lo2 := Int.min_le_right ..
  have h3 : hi ≤ max hi hi2 := Int.le_max_left ..
  have h4 : hi2 ≤ max hi hi2 := Int.le_max_right ..
  exact (Bel.wide R g h2 h4).mp ((Bel.wide R f h1 h3).mpr h)
/-- a step leads from a configuration that belongs to one that belongs -/
theorem Bel.step (R : Right A m ns k E M) {s p : Int} {c c2 : Int → Int} {lo hi lo2 hi2 : Int} (f : Fits c lo hi) (g : Fits c2 lo2 hi2) (h : Bel A E M s p c lo hi)
    (hp : c2 p = (rl m s (c p)).1) (ho : ∀ x, x ≠ p → c2 x = c x) : 0 ≤ (rl m s (c p)).2.2 ∧ Bel A E M (rl m s (c p)).2.2 (p + (rl m s (c p)).2.1) c2 lo2 hi2 := by
  -- wide bounds
  obtain ⟨a, ha1, ha2, ha3⟩ : ∃ a : Int, a ≤ lo ∧ a ≤ lo2 ∧ a < p := ⟨min (min lo lo2) (p - 1), by omega, by omega, by omega⟩
  obtain ⟨b, hb1, hb2, hb3⟩ : ∃ b : Int, hi ≤ b ∧ hi2 ≤ b ∧ p < b := ⟨max (max hi hi2) (p + 1), by omega, by omega, by omega⟩
  obtain ⟨o1, o2, o3⟩ := (Bel.wide R f ha1 hb1).mpr h
  obtain ⟨⟨x1a, x1b⟩, x2, x3, x4⟩ := R.mR _ o3
  obtain ⟨r1, r2, r3, r4⟩ := R.mch.rlR x2 x3
  have go := R.go _ o3
  simp only at x2 x3 r1 r2 r3 r4 go
  refine ⟨by omega, (Bel.wide R g ha2 hb2).mp ?_⟩
  generalize hr : rl m s (c p) = u at *
  obtain ⟨w, mv, t⟩ := u
  simp only at *
  rcases r2 with e | e
  · -- to the right
    subst e
    have rt := R.rt _ o3
    simp only [hr] at rt
    obtain ⟨t1, t2⟩ := rt (by trivial)
    have eL : leftL c2 a (p + 1) = leftL c a p ++ [w] := by
      unfold leftL
      rw [cut_cut c2 (show a ≤ p by omega) (show p ≤ p + 1 by omega), cut_one, hp, cut_congr fun x _ q => ho x (by omega)]
    have eR : rightL c p b = rightL c (p + 1) b ++ [c (p + 1)] := by
      unfold rightL
      rw [cut_cut c (show p + 1 ≤ p + 1 + 1 by omega) (show p + 1 + 1 ≤ b + 1 by omega), cut_one, List.reverse_append]
      rfl
    have eR2 : rightL c2 (p + 1) b = rightL c (p + 1) b := by
      unfold rightL
      rw [cut_congr fun x q _ => ho x (by omega)]
    rw [eR, okE_append, okE_one] at o2
    rw [eR, rd_append, rd_one] at t2
    have m2 := t2 _ _ o2.2 rfl
    unfold Bel
    rw [eL, eR2, okE_append, okE_one, rd_append, rd_one, ho (p + 1) (by omega)]
    exact ⟨⟨o1, t1⟩, o2.1, m2⟩
  · -- to the left
    subst e
    have lt := R.lt _ o3
    simp only [hr] at lt
    obtain ⟨t1, t2⟩ := lt (by decide)
    have ep : p + -1 = p - 1 := rfl
    have eR : rightL c2 (p - 1) b = rightL c p b ++ [w] := by
      unfold rightL
      rw [show p - 1 + 1 = p by omega, cut_cut c2 (show p ≤ p + 1 by omega) (show p + 1 ≤ b + 1 by omega), cut_one, hp, List.reverse_append, cut_congr fun x q _ => ho x (by omega)]
      rfl
    have eL : leftL c a p = leftL c a (p - 1) ++ [c (p - 1)] := by
      unfold leftL
      rw [cut_cut c (show a ≤ p - 1 by omega) (show p - 1 ≤ p by omega)]
      have := cut_one c (p - 1)
      rw [show p - 1 + 1 = p by omega] at this
      rw [this]
    have eL2 : leftL c2 a (p - 1) = leftL c a (p - 1) := by
      unfold leftL
      rw [cut_congr fun x _ q => ho x (by omega)]
    rw [eL, okE_append, okE_one] at o1
    rw [eL, rd_append, rd_one] at t2
    have m2 := t2 _ _ o1.2 rfl
    rw [ep]
    unfold Bel
    rw [eR, eL2, okE_append, okE_one, rd_append, rd_one, ho (p - 1) (by omega)]
    exact ⟨o1.1, ⟨o2, t1⟩, m2⟩
/-- the blank tape belongs -/
theorem Bel.blank (R : Right A m ns k E M) {c : Int → Int} {lo hi : Int} (hc : ∀ x, c x = 0) : Bel A E M 0 0 c lo hi := by
  have f : Fits c 0 0 := ⟨fun x _ => hc x, fun x _ => hc x⟩
  refine Bel.any R f ⟨fun x _ => hc x, fun x _ => hc x⟩ ?_
  unfold Bel
  have e1 : leftL c 0 0 = [] := cut_nil c (Int.le_refl _)
  have e2 : rightL c 0 0 = [] := by
    unfold rightL
    rw [cut_nil c (Int.le_refl _)]
    rfl
  rw [e1, e2, hc]
  exact ⟨trivial, trivial, R.m0⟩
end
end Tac
namespace TacR
open PySem PySem.Spec PyProof.Rows L2
/-! ### tuple * int, an int of any sign -/
theorem mul_same (l : Addr) (its : Array Value) (n : Nat) (dd : Option Addr) (sl : Array (Option Value)) (u : Tok) :
    Meets (Builtin.«tuple.__mul__» ⟨[.ref l, .int 1 u], []⟩) (fun _ R s => s.heap.get? l = some { cls := .type "tuple", dict := dd, data := .seq its n, slots := sl } ∧ R (.ok (.ret (Value.ref l))) s) :=
  .of_wp fun prog w A R s h => by
    obtain ⟨hp, g, d, tk, os⟩ := s
    obtain ⟨hl, h⟩ := h
    have f1 := AutoSeq1.idx_int
    have ty : (⟨hp, g, d, tk, os⟩ : Shared).TypeIs (.ref l) "tuple" := ⟨_, hl, rfl⟩
    have c0 : (its.isEmpty || (1 : Int) == 1) = true := by simp
    wp_walk using wpAny_loadPart' hl
    repeat (first
      | (refine wpAny_ite_true (decide_eq_true (by rw [c0])) ?_; wp_walk using wpAny_loadPart' hl)
      | (refine wpAny_ite_false (decide_eq_false (by decide)) ?_; wp_walk using wpAny_loadPart' hl))
    exact ⟨_, rfl, h⟩
theorem mul_none (l : Addr) (its : Array Value) (n : Nat) (dd : Option Addr) (sl : Array (Option Value)) (x : Int) (u : Tok) (c0 : (decide (x < -(2 ^ 63)) || decide (x ≥ 2 ^ 63)) = false) (c1 : (its.isEmpty || x == 1) = false) (c2 : (decide (x ≤ 0) || its.isEmpty) = true) :
    Meets (Builtin.«tuple.__mul__» ⟨[.ref l, .int x u], []⟩) (fun _ R s => s.heap.get? l = some { cls := .type "tuple", dict := dd, data := .seq its n, slots := sl } ∧
      R (.ok (.ret (Value.ref s.heap.objs.size))) { s with heap := s.heap.push { cls := Value.type "tuple", data := Data.seq #[] }, toks := s.toks }) :=
  .of_wp fun prog w A R s h => by
    obtain ⟨hp, g, d, tk, os⟩ := s
    obtain ⟨hl, h⟩ := h
    have f1 := AutoSeq1.idx_int
    wp_walk using wpAny_loadPart' hl
    repeat (first
      | (refine wpAny_ite_false (decide_eq_false (by rw [c0]; exact Bool.false_ne_true)) ?_; wp_walk using wpAny_loadPart' hl)
      | (refine wpAny_ite_false (decide_eq_false (by rw [c1]; exact Bool.false_ne_true)) ?_; wp_walk using wpAny_loadPart' hl)
      | (refine wpAny_ite_true (decide_eq_true (by rw [c2])) ?_; wp_walk using wpAny_loadPart' hl)
      | (refine wpAny_ite_false (decide_eq_false (by decide)) ?_; wp_walk using wpAny_loadPart' hl))
    exact ⟨_, rfl, h⟩
def rRepZ (K : PySem.W.Frag) : R2 := fun x y H Q => ∃ l k xs, x = .ref l ∧ y = .int k ∧ SqT K H l xs ∧ xs ≠ [] ∧ -1000000 ≤ k ∧ k ≤ 1000 ∧ xs.length ≤ 1000 ∧ (k = 1 → Q (.ref l) H) ∧
  (k ≠ 1 → ∀ p, H p = none → Q (.ref p) (upd H p (.tup (List.replicate k.toNat xs).flatten)))
section
variable {X : Cx}
theorem op_repZ : OpR X (binaryOp .Mult) (rRepZ X.K) := by
  intro pins s σ H x y v u Q I rx ry h
  obtain ⟨l, k, xs, ex, ey, hT, hne, h1, h2, hz, q1, q2⟩ := h
  by_cases hk : 2 ≤ k
  · exact op_repT pins s σ H x y v u Q I rx ry ⟨l, k, xs, ex, ey, hT, hne, hk, h2, hz, q2 (by omega)⟩
  · subst ex ey
    cases rx
    obtain ⟨t, rfl⟩ := ry
    obtain ⟨its, r, ⟨⟨cls, dd, data, sl⟩, ho, hc, n, hd⟩, hs⟩ := I.tuple hT
    simp only at hc hd
    subst hc hd
    have hle : its.length = xs.length := r.length.symm
    have hi : its.toArray.isEmpty = false := by
      cases its with
      | nil => exact absurd (List.eq_nil_of_length_eq_zero hle.symm) hne
      | cons a b => rfl
    have c0 : (decide (k < -(2 ^ 63)) || decide (k ≥ 2 ^ 63)) = false := by
      rw [decide_eq_false (by omega), decide_eq_false (by omega)] <;> rfl
    by_cases k1 : k = 1
    · subst k1
      exact wpAny_binaryOp_repeat_ref (T := "tuple") (U := "int") (by decide) ⟨_, ho, rfl⟩ (fun s' => typeIs_int s' 1 t) noFill_tuple_mul F.fills_int_mul F.slot_int_rmul repeat_tuple F.slot_int_index.lookup
        (call_meets F.slot_int_rmul (typeIs_int s 1 t) F.entry_int_rmul (F.args_int_rmul_2 _ _) (int_rmul_tuple 1 t l its.toArray n dd sl)
          ⟨ho, rfl, ⟨_, ho, rfl⟩, call_meets F.slot_tuple_mul ⟨_, ho, rfl⟩ F.entry_tuple_mul (F.args_tuple_mul_2 _ _) (mul_same l its.toArray n dd sl t) ⟨ho, ⟨.ref l, H, I, rfl, q1 rfl⟩⟩⟩)
    · have c1 : (its.toArray.isEmpty || k == 1) = false := by
        rw [hi, Bool.false_or]
        exact beq_eq_false_iff_ne.mpr k1
      have c2 : (decide (k ≤ 0) || its.toArray.isEmpty) = true := by
        rw [decide_eq_true (by omega), Bool.true_or]
      refine wpAny_binaryOp_repeat_ref (T := "tuple") (U := "int") (by decide) ⟨_, ho, rfl⟩ (fun s' => typeIs_int s' k t) noFill_tuple_mul F.fills_int_mul F.slot_int_rmul repeat_tuple F.slot_int_index.lookup
        (call_meets F.slot_int_rmul (typeIs_int s k t) F.entry_int_rmul (F.args_int_rmul_2 _ _) (int_rmul_tuple k t l its.toArray n dd sl)
          ⟨ho, rfl, ⟨_, ho, rfl⟩, call_meets F.slot_tuple_mul ⟨_, ho, rfl⟩ F.entry_tuple_mul (F.args_tuple_mul_2 _ _) (mul_none l its.toArray n dd sl k t c0 c1 c2) ⟨ho, ?_⟩⟩)
      have e0 : (List.replicate k.toNat xs).flatten = [] := by
        have : k.toNat = 0 := by omega
        rw [this]
        rfl
      have q3 := q2 k1
      rw [e0] at q3
      refine ⟨.ref s.heap.objs.size, _, I.laid (t' := s.toks) (o := .tup []) (fun b ob q => Heap.get?_push_of_some _ q) (Nat.le_refl _) ?_, rfl, q3 _ (I.hok.fresh (Nat.le_refl _))⟩
      exact ⟨Nat.zero_le _, [], .nil, IsTup.new _ _⟩
end
/-! ### t[::-1] of a tuple -/
theorem adjust_back (n : Nat) : Builtin.Slice.sliceAdjust none none (-1) (n : Int) = ((n : Int) - 1, -1) := by
  unfold Builtin.Slice.sliceAdjust
  simp
theorem places_back (n : Nat) : Builtin.Slice.slicePlaces ((n : Int) - 1) (-1) (-1) = n := by
  unfold Builtin.Slice.slicePlaces
  simp
  try omega
theorem fm_congr {α β : Type} {f g : α → Option β} : ∀ {l : List α}, (∀ a ∈ l, f a = g a) → l.filterMap f = l.filterMap g
  | [], _ => rfl
  | a :: r, h => by
    rw [List.filterMap_cons, List.filterMap_cons, h a (List.mem_cons_self ..), fm_congr fun b hb => h b (List.mem_cons_of_mem _ hb)]
theorem pick_back (l : List Value) : ((List.range l.length).filterMap fun (k : Nat) => l.toArray[(((l.length : Int) - 1) + (k : Int) * -1).toNat]?) = l.reverse := by
  have e : (List.range l.length).filterMap (fun (k : Nat) => l.toArray[(((l.length : Int) - 1) + (k : Int) * -1).toNat]?) = (List.range l.length).filterMap fun k => l.reverse[k]? := by
    refine fm_congr fun k hk => ?_
    have hk := List.mem_range.mp hk
    have e1 : (((l.length : Int) - 1) + (k : Int) * -1).toNat = l.length - 1 - k := by omega
    rw [e1, List.getElem?_toArray, List.getElem?_reverse hk]
  rw [e]
  have := PySem.W.krv_all l.reverse.toArray
  simpa using this
theorem applied_back {prog : Program} {w : World} {A : Around} {E : Value → Shared → Prop} {s : Shared} {sl : Addr} {t : Tok} {n : Nat} {Q : Int × Int × Nat → Shared → Prop} (hs : s.heap.IsSliceOf sl .none .none (.int (-1) t))
    (h : Q ((n : Int) - 1, -1, n) s) : wpAny (model prog w) A (Builtin.Slice.sliceApplied (.ref sl) (pure (n : Int))) Q E s := by
  obtain ⟨os, hos, hcs, hds⟩ := id hs
  unfold Builtin.Slice.sliceApplied Builtin.Slice.sliceFields
  refine wpAny_bind (wpAny_bind (wpAny_field hos hds (x := .none) rfl (wpAny_bind (wpAny_field hos hds (x := .none) rfl (wpAny_bind (wpAny_field hos hds (x := .int (-1) t) rfl (wpAny_pure ?_)))))))
  refine wpAny_bind (slicePart_int ?_)
  show wpAny _ _ (if ((-1 : Int) == 0) = true then _ else _) _ _ s
  rw [if_neg (by decide)]
  refine wpAny_bind (slicePart_none (wpAny_bind (slicePart_none (wpAny_bind (wpAny_pure ?_)))))
  show wpAny _ _ (match Builtin.Slice.sliceAdjust none none (-1) (n : Int) with | (lo, hi) => pure (lo, (-1 : Int), Builtin.Slice.slicePlaces lo hi (-1))) _ _ s
  rw [adjust_back]
  show wpAny _ _ (pure ((n : Int) - 1, (-1 : Int), Builtin.Slice.slicePlaces ((n : Int) - 1) (-1) (-1))) _ _ s
  rw [places_back]
  exact wpAny_pure h
theorem getItem_back {prog : Program} {w : World} {A : Around} {E : Value → Shared → Prop} {s : Shared} {t sl : Addr} {l : List Value} {u : Tok} {Q : Value → Shared → Prop} (ht : IsTup s.heap t l.toArray) (hs : s.heap.IsSliceOf sl .none .none (.int (-1) u))
    (hsz : l.length ≤ sizeLine) (h : Q (.ref s.heap.objs.size) { s with heap := s.heap.push { cls := .type "tuple", data := .seq l.reverse.toArray } }) : wpAny (model prog w) A (getItem (.ref t) (.ref sl)) Q E s := by
  obtain ⟨os, hos, hcs, hds⟩ := id hs
  have hTs : s.TypeIs (.ref sl) "slice" := ⟨os, hos, hcs⟩
  have htake : sizeOk (.seq l.reverse.toArray) := by
    show l.reverse.toArray.size ≤ sizeLine
    rw [List.size_toArray, List.length_reverse]
    exact hsz
  unfold getItem
  try with_reducible refine wpAny_holding ?_
  first | refine wpAny_bind (wpAny_pure ?_) | skip
  refine wpAny_bind (wpAny_sequenceKey ht.typeIs (by decide) ?_)
  refine wpAny_bind (wpAny_callSpecial?_slot (name := Str.ofString "__getitem__") ht.typeIs PyProof.Rows.slot_tuple_getitem
    (wpAny_call_entry PyProof.Rows.slot_tuple_getitem ht.typeIs entry_tuple_getitem ?_ (args_tuple_getitem _ _)))
  show wpAny _ _ (Builtin.Tuple.tupleItemsOf (.ref t) >>= _) _ _ s
  refine wpAny_bind (tupleItemsOf_ ht ?_)
  refine wpAny_bind (wpAny_typeOf hTs ?_)
  rw [if_pos (by decide)]
  refine wpAny_bind (applied_back (n := l.toArray.size) hs ?_)
  have hno : ¬ (((((l.toArray.size : Nat) : Int) - 1) == 0 && (-1 : Int) == 1 && l.toArray.size == l.toArray.size) = true) := by
    simp
  show wpAny _ _ (if ((((l.toArray.size : Nat) : Int) - 1) == 0 && (-1 : Int) == 1 && l.toArray.size == l.toArray.size) = true then _ else _) _ _ s
  rw [if_neg hno, List.size_toArray, pick_back]
  first
    | exact wpAny_bind (m := Builtin.Tuple.tupleExact _) (wpAny_newObj_type (wpAny_pure ⟨_, rfl, wpAny_pure h⟩) htake)
    | exact wpAny_bind (m := Builtin.Tuple.tupleExact _) (wpAny_newObj_type (wpAny_bind (wpAny_pure (wpAny_pure ⟨_, rfl, wpAny_pure h⟩))) htake)
    | exact wpAny_bind (wpAny_bind (m := Builtin.Tuple.tupleExact _) (wpAny_newObj_type (wpAny_pure (wpAny_pure ⟨_, rfl, wpAny_pure h⟩)) htake))
    | exact wpAny_bind (wpAny_bind (m := Builtin.Tuple.tupleExact _) (wpAny_newObj_type (wpAny_pure ⟨_, rfl, wpAny_pure h⟩) htake))
section
variable {X : Cx}
def tBackT (K : PySem.W.Frag) (te : TE) : TE := fun σ H Q => te σ H fun x H1 => ∃ a xs, x = .ref a ∧ SqT K H1 a xs ∧ ∀ p, H1 p = none → Q (.ref p) (upd H1 p (.tup xs.reverse))
theorem pe_backT {e : Expr} {te : TE} {k : Nat} {p1 p2 p3 pos : Pos} (he : PE X e te) : PE X (.Subscript e (.Slice none none (some (.UnaryOp .USub (.Constant (.int 1) k p1) p2)) p3) pos) (tBackT X.K te) := by
  refine ⟨fun pins s σ H Q I h => ?_⟩
  refine Subscript_ (thn (he.run pins s σ H _ I h) fun v s1 ⟨x, H1, I1, r1, a, xs, ex, hx, q⟩ => ?_)
  subst ex
  cases r1
  have hst : PO X (some (.UnaryOp .USub (.Constant (.int 1) k p1) p2)) (tPart (tUn (rU fun i => .int (-i)) (tC (.int 1)))) := po_some (pe_un un_neg pe_int)
  refine wpAny_Slice (thn (po_none.run pins s1 σ H1 (fun o H2 => o = none ∧ H2 = H1) I1 ⟨rfl, rfl⟩) fun vl s2 ⟨o2, H2, I2, pl, el, e2⟩ => ?_)
  subst el e2
  refine thn (po_none.run pins s2 σ H2 (fun o H3 => o = none ∧ H3 = H2) I2 ⟨rfl, rfl⟩) fun vu s3 ⟨o3, H3, I3, pu, eu, e3⟩ => ?_
  subst eu e3
  refine thn (hst.run pins s3 σ H3 (fun o H4 => o = some (-1) ∧ H4 = H3) I3 ⟨1, rfl, -1, rfl, rfl, rfl⟩) fun vs s4 ⟨o4, H4, I4, ps, eo, e4⟩ => ?_
  subst eo e4
  cases pl
  cases pu
  cases ps with
  | int i t =>
    have I5 : Inv X pins σ H4 { s4 with heap := s4.heap.push { cls := .type "slice", data := .fields #[.none, .none, .int (-1) t] } } := I4.kept (t' := s4.toks) fun b ob q => Heap.get?_push_of_some _ q
    obtain ⟨its, r, ht, hz⟩ := I5.tuple hx
    have hlen := r.length
    show wpAny (model X.prog X.w) X.A (subscriptTail e (.Slice none none (some (.UnaryOp .USub (.Constant (.int 1) k p1) p2)) p3) (.ref a) (.ref s4.heap.objs.size)) (EP X pins σ Q) X.xe { s4 with heap := s4.heap.push { cls := .type "slice", data := .fields #[.none, .none, .int (-1) t] } }
    refine tail_any (ops := [.ref a, .ref s4.heap.objs.size]) ht.typeIs (PyProof.Rows.slot_tuple_getitem.lookup) ?_ (by with_unfolding_all rfl)
    refine getItem_back ht (Heap.IsSliceOf.new _ .none .none (.int (-1) t)) (by omega) ?_
    refine ⟨.ref _, _, I5.laid (t' := s4.toks) (o := .tup xs.reverse) (fun b ob q => Heap.get?_push_of_some _ q) (Nat.le_refl _) ?_, rfl, q _ (I5.hok.fresh (Nat.le_refl _))⟩
    exact ⟨by rw [List.length_reverse]; exact hz, _, r.reverse, IsTup.new _ _⟩
end
end TacR
namespace TacR
open PySem PySem.Spec PyProof.Rows L2
/-- a tuple of ints -/
def TN (H : Hp) (a : Addr) (ns : List Int) : Prop := H a = some (.tup (ns.map V.int))
def kI (ns : List Int) : List Key := ns.map Sum.inl
theorem kI_kV (ns : List Int) : (kI ns).map kV = ns.map V.int := by unfold kI; rw [List.map_map]; rfl
theorem kI_inj {a b : List Int} (h : kI a = kI b) : a = b := by
  unfold kI at h
  induction a generalizing b with
  | nil =>
    cases b with
    | nil => rfl
    | cons y r => cases h
  | cons x l ih =>
    cases b with
    | nil => cases h
    | cons y r =>
      simp only [List.map_cons, List.cons.injEq] at h
      rw [Sum.inl.inj h.1, ih h.2]
theorem TN.key {H : Hp} {a : Addr} {ns : List Int} (h : TN H a ns) : H a = some (.tup ((kI ns).map kV)) := by rw [kI_kV]; exact h
theorem readsAll_ints {h : Heap} : ∀ {ns : List Int} {us : List Value}, Vals (ns.map V.int) us → ReadsAll h us (ns.map PyData.int) []
  | [], us, r => by
    cases r
    exact .nil
  | n :: ns, us, r => by
    cases r with
    | cons r1 r2 =>
      obtain ⟨t, rfl⟩ := r1
      exact ReadsAll.cons (as := []) (.int n t) (readsAll_ints r2)
theorem reads_TI {X : Cx} {pins : List (Addr × Obj)} {σ : L2.St} {H : Hp} {s : Shared} {a : Addr} {ns : List Int} (I : Inv X pins σ H s) (h : TN H a ns) : Reads s.heap (.ref a) (.tuple (ns.map .int)) [] := by
  obtain ⟨_, its, r, o, ho, hc, n, hd⟩ := I.hok a _ h
  exact Reads.tuple ho hc hd (readsAll_ints r)
theorem each_of {R : Value → (Addr × List Int) → Prop} : ∀ {ps : List (Addr × List Int)}, (∀ q ∈ ps, R (.ref q.1) q) → PySem.W.EachIs R (ps.map fun q => Value.ref q.1) ps
  | [], _ => .nil
  | q :: ps, h => .cons (h q (List.mem_cons_self ..)) (each_of fun p hp => h p (List.mem_cons_of_mem _ hp))
theorem each_back {H : Hp} : ∀ {us : List Value} {ps : List (Addr × List Int)}, PySem.W.EachIs (fun v (q : Addr × List Int) => v = .ref q.1 ∧ TN H q.1 q.2) us ps → us = ps.map (fun q => Value.ref q.1) ∧ ∀ q ∈ ps, TN H q.1 q.2
  | _, _, .nil => ⟨rfl, fun _ h => by cases h⟩
  | _, _, .cons h t => by
    obtain ⟨e1, e2⟩ := each_back t
    refine ⟨by rw [List.map_cons, h.1, e1], fun q hq => ?_⟩
    rcases List.mem_cons.mp hq with e | e
    · rw [e]; exact h.2
    · exact e2 q e
theorem vals_ps : ∀ ps : List (Addr × List Int), Vals (ps.map fun q => V.ref q.1) (ps.map fun q => Value.ref q.1)
  | [] => .nil
  | q :: ps => .cons rfl (vals_ps ps)
theorem dataLe_tups (x : Addr × List Int → List Int) : PySem.W.dataLe false (fun b => .tuple ((x b).map .int)) = fun p q => decide (x p ≤ x q) := by
  funext p q
  show (!PySem.W.dataLt (.tuple ((x q).map .int)) (.tuple ((x p).map .int))) = _
  rw [PySem.W.dataLt_tuple]
  show (!PySem.W.rowLt ((x q).map .int) ((x p).map .int)) = _
  rw [PySem.W.dataLt_ints]
  by_cases h : x q < x p
  · have h' : ¬ x p ≤ x q := fun r => List.not_lt.mpr r h
    simp [h, h']
  · have h' : x p ≤ x q := List.not_lt.mp h
    simp [h, h']
theorem paired_zip {H : Hp} : ∀ {kvs : List (List Key × V)} {ks : List (List Int)} {xs : List (List Key × Addr × Value)}, kvs.map (·.1) = ks.map kI →
    Paired (fun (p : List Key × V) (q : List Key × Addr × Value) => p.1 = q.1 ∧ H q.2.1 = some (.tup (p.1.map kV)) ∧ RelV p.2 q.2.2) kvs xs →
    ∃ ps : List (Addr × List Int), ps.map (·.2) = ks ∧ ps.map (·.1) = xs.map (·.2.1) ∧ ∀ q ∈ ps, TN H q.1 q.2
  | [], [], _, _, .nil => ⟨[], rfl, rfl, fun _ h => by cases h⟩
  | [], _ :: _, _, e, _ => by cases e
  | _ :: _, [], _, e, _ => by cases e
  | kv :: kvs, k :: ks, _, e, .cons (b := b) r t => by
    simp only [List.map_cons, List.cons.injEq] at e
    obtain ⟨ps, h1, h2, h3⟩ := paired_zip e.2 t
    refine ⟨(b.2.1, k) :: ps, by rw [List.map_cons, h1], by rw [List.map_cons, List.map_cons, h2], fun q hq => ?_⟩
    rcases List.mem_cons.mp hq with e2 | e2
    · rw [e2]
      have := r.2.1
      rw [e.1, kI_kV] at this
      exact this
    · exact h3 q e2
/-- sorted(d), d a dict whose keys are tuples of ints, all of one length -/
def rSortT : List V → Hp → VK → Prop := fun vs H Q => ∃ (a : Addr) (kvs : List (List Key × V)) (ks : List (List Int)), vs = [.ref a] ∧ Rd H a (.dT kvs) ∧ kvs.map (·.1) = ks.map kI ∧ (∀ k ∈ ks, k ≠ []) ∧
  ∀ (ps : List (Addr × List Int)) p, H p = none → (∀ q ∈ ps, TN H q.1 q.2) → (ps.map (·.2)).Perm ks → (ps.map (·.2)).Pairwise (· ≤ ·) → Q (.ref p) (upd H p (.lst (ps.map fun q => V.ref q.1)))
section
variable {X : Cx}
theorem call_sortT (hc : X.calm = true) (hu : X.A.units + 64 < cLine) : CallR X (.builtin "sorted") rSortT := by
  intro pins s σ H xs us Q I r h
  obtain ⟨d, kvs, ks, rfl, hd, hk, hne, q⟩ := h
  obtain ⟨u, rfl, rx⟩ := r.one
  cases rx
  obtain ⟨z, hs, xs, pr, o, es, ep, ho, hx, hdt, he, hn⟩ := (show ObjOk X.prog X.w H s.heap d (.dT kvs) from hd.ok I.hok)
  obtain ⟨ps, p1, p2, p3⟩ := paired_zip hk pr
  have l1 : es.size = xs.length := size_of_entries he
  have l2 : kvs.length = xs.length := Paired.length pr
  have l3 : ps.length = xs.length := by have := congrArg List.length p2; simpa using this
  refine Calls.call_function_entry PyProof.Rows.kind_sorted PyProof.Rows.plain_sorted PyProof.Rows.entry_sorted (PyProof.Rows.args_sorted1 _) ?_
  unfold Builtin.«sorted»
  refine wpAny_bind (m := checkCount "sorted" 1 1 _) (wpAny_pure ?_)
  refine wpAny_bind (PySem.W.kdu_collect (A := X.A.in1) (kdl_raw hs hx hdt) (I.ok.hd hc) ho (by omega) fun h' tk acc kp it => ?_)
  have ea : acc.toList = ps.map fun q => Value.ref q.1 := by
    have hl : acc.toList.length = xs.length := by rw [Array.length_toList, it.1]; exact l1
    have e1 : (ps.map fun q => Value.ref q.1) = (xs.map (·.2.1)).map Value.ref := by rw [← p2, List.map_map]; rfl
    rw [e1, List.map_map]
    apply List.ext_getElem?
    intro j
    rw [List.getElem?_map]
    cases hj : acc.toList[j]? with
    | none =>
      have h1 := List.getElem?_eq_none_iff.mp hj
      rw [List.getElem?_eq_none (by omega)]
      all_goals rfl
    | some v =>
      obtain ⟨en, hen, hv⟩ := it.2 j v (by rw [← Array.getElem?_toList]; exact hj)
      have qe := entry_at he j
      rw [hen] at qe
      cases hb : xs[j]? with
      | none =>
        rw [hb] at qe
        exact nomatch (show some en = none from qe)
      | some b =>
        rw [hb] at qe
        have e2 : en = entryOfKey (tupleKind (mixKind X.prog X.w)) b := Option.some.inj qe
        rw [hv, e2]
        all_goals rfl
  have I1 : Inv X pins σ H { s with heap := h', toks := tk } := I.kept kp
  have hal : acc.toList.length ≤ sizeLine := by rw [Array.length_toList, it.1]; omega
  refine wpAny_bind (wpAny_newList ?_ hal)
  have hoL : (h'.push (seqObj "list" acc.toList.toArray 0)).get? h'.objs.size = some (seqObj "list" acc.toList.toArray 0) := Heap.get?_push_size _ rfl
  show wpAny _ _ _ _ _ { s with heap := h'.push (seqObj "list" acc.toList.toArray 0), toks := tk }
  have I2 : Inv X pins σ H { s with heap := h'.push (seqObj "list" acc.toList.toArray 0), toks := tk } := I1.kept (t' := tk) fun b u e => Heap.get?_push_of_some _ e
  have mem : ∀ d ∈ ps.map (fun q => PyData.tuple (q.2.map .int)), ∃ k ∈ ks, d = .tuple (k.map .int) := fun d hd => by
    obtain ⟨q, hq, rfl⟩ := List.mem_map.mp hd
    exact ⟨q.2, by rw [← p1]; exact List.mem_map.mpr ⟨q, hq, rfl⟩, rfl⟩
  refine wpAny_bind (wpAny_holding (PySem.W.list_sort_data (s := { s with heap := h'.push (seqObj "list" acc.toList.toArray 0), toks := tk }) (enc := fun q : Addr × List Int => PyData.tuple (q.2.map .int)) (bs := ps)
    (R := fun v (q : Addr × List Int) => v = .ref q.1 ∧ TN H q.1 q.2) hoL (by rw [ea]; exact each_of fun q hq => ⟨rfl, p3 q hq⟩) (by have e2 := each_of (R := fun v (q : Addr × List Int) => ∃ as, Reads (h'.push (seqObj "list" acc.toList.toArray 0)) v (PyData.tuple (q.2.map .int)) as ∧ h'.objs.size ∉ as) (ps := ps) fun q hq => ⟨[], reads_TI I2 (p3 q hq), by simp⟩; rw [← ea] at e2; exact e2) ?_ ?_ (by omega) ?_ fun out ol oe => ?_))
  · intro d hd d' hd'
    obtain ⟨k, _, rfl⟩ := mem d hd
    obtain ⟨k', _, rfl⟩ := mem d' hd'
    simp only [PySem.W.alike]
    exact PySem.W.alike_ints k k'
  · refine .inl fun d hd => ?_
    obtain ⟨k, hk, rfl⟩ := mem d hd
    have := hne k hk
    cases k with
    | nil => exact absurd rfl this
    | cons a r => exact ⟨.int a, r.map .int, rfl⟩
  · intro q hq
    show X.A.in1.units + 1 + PyData.depth (.tuple (q.2.map .int)) < cLine
    simp only [PyData.depth, PySem.W.depth_ints]
    have : X.A.in1.units = X.A.units + 1 := rfl
    omega
  · obtain ⟨e1, e2⟩ := each_back oe
    rw [dataLe_tups (fun q => q.2)] at e1 e2
    generalize hps : ps.mergeSort (fun p q => decide (p.2 ≤ q.2)) = ps2 at e1 e2
    have perm : ps2.Perm ps := by rw [← hps]; exact List.mergeSort_perm _ _
    have asc : ps2.Pairwise (fun p q => p.2 ≤ q.2) := by
      have := List.pairwise_mergeSort (le := fun (p q : Addr × List Int) => decide (p.2 ≤ q.2)) (fun a b c h1 h2 => decide_eq_true (List.le_trans (of_decide_eq_true h1) (of_decide_eq_true h2))) (fun a b => by
        rcases List.le_total a.2 b.2 with h | h
        · simp [h]
        · simp [h]) ps
      rw [hps] at this
      exact this.imp fun h => of_decide_eq_true h
    obtain ⟨e', he'⟩ := PyProof.Rows.sortedHeap_at (vs := acc.toList) (out := out.toArray) hoL
    have hlen : (ps2.map fun q => V.ref q.1).length ≤ sizeLine := by
      rw [List.length_map, perm.length_eq]
      omega
    refine wpAny_pure ⟨_, rfl, .ref h'.objs.size, upd H h'.objs.size (.lst (ps2.map fun q => V.ref q.1)), I1.laid (t' := tk) (fun b u e => ?_) (Nat.le_refl _)
      (show ObjOk X.prog X.w _ _ _ (.lst (ps2.map fun q => V.ref q.1)) from ⟨hlen, out, e', by rw [e1]; exact vals_ps ps2, he'⟩), rfl, q ps2 _ (I1.hok.fresh (Nat.le_refl _)) e2 (by rw [← p1]; exact perm.map _) (List.pairwise_map.mpr asc)⟩
    have hb : b < h'.objs.size := Heap.lt_size e
    rw [PyProof.Rows.sortedHeap_old (Nat.ne_of_lt hb) (by rw [size_push']; exact Nat.lt_succ_of_lt hb)]
    exact Heap.get?_push_of_some _ e
/-! ### x in t, t a tuple of tuples of ints -/
theorem reads_all {pins : List (Addr × Obj)} {σ : L2.St} {H : Hp} {s : Shared} (I : Inv X pins σ H s) : ∀ {as : List Addr} {ks : List (List Int)} {us : List Value}, Paired (TN H) as ks → Vals (as.map V.ref) us → ReadsAll s.heap us (ks.map fun k => PyData.tuple (k.map .int)) []
  | _, _, _, .nil, r => by
    cases r
    exact .nil
  | _, _, _, .cons h t, r => by
    cases r with
    | cons r1 r2 =>
      cases r1
      exact ReadsAll.cons (as := []) (reads_TI I h) (reads_all I t r2)
theorem lay_ints : ∀ ns : List Int, PyData.canLayAll0 (ns.map .int) = true
  | [] => by simp [PyData.canLayAll0]
  | n :: ns => by simp [PyData.canLayAll0, PyData.canLay0, lay_ints ns]
theorem lay_tup (ns : List Int) : (PyData.tuple (ns.map .int)).canLay0 = true := by simp [PyData.canLay0, lay_ints]
theorem lay_tups : ∀ ks : List (List Int), PyData.canLayAll0 (ks.map fun k => PyData.tuple (k.map .int)) = true
  | [] => by simp [PyData.canLayAll0]
  | k :: ks => by simp only [List.map_cons, PyData.canLayAll0, lay_tup, lay_tups ks, Bool.and_self]
theorem depth_tup (ns : List Int) : (PyData.tuple (ns.map .int)).depth = 1 := by simp only [PyData.depth, PySem.W.depth_ints]
theorem eqv_ints : ∀ a b : List Int, PyData.eqvAll (a.map .int) (b.map .int) = decide (a = b)
  | [], [] => by simp [PyData.eqvAll]
  | [], y :: ys => by simp [PyData.eqvAll]
  | x :: xs, [] => by simp [PyData.eqvAll]
  | x :: xs, y :: ys => by
    show PyData.eqvAll (.int x :: xs.map .int) (.int y :: ys.map .int) = _
    rw [PyData.eqvAll, eqv_ints xs ys]
    by_cases h : x = y
    · by_cases h2 : xs = ys <;> simp [PyData.eqv, h, h2]
    · simp [PyData.eqv, h]
theorem eqv_tups (a b : List Int) : PyData.eqv (.tuple (a.map .int)) (.tuple (b.map .int)) = decide (a = b) := by
  rw [← eqv_ints]
  simp [PyData.eqv]
theorem any_tups (ks : List (List Int)) (k : List Int) : ((ks.map fun k => PyData.tuple (k.map .int)).any fun z => PyData.eqv z (.tuple (k.map .int))) = decide (k ∈ ks) := by
  induction ks with
  | nil => simp
  | cons a r ih =>
    rw [List.map_cons, List.any_cons, ih, eqv_tups]
    by_cases h : k = a
    · simp [h]
    · have h2 : ¬ a = k := fun e => h e.symm
      by_cases h3 : k ∈ r <;> simp [h, h2, h3]
def rInT (neg : Bool) : R2 := fun x y H Q => ∃ (p b : Addr) (as : List Addr) (ks : List (List Int)) (k : List Int), x = .ref b ∧ y = .ref p ∧ H p = some (.tup (as.map V.ref)) ∧ Paired (TN H) as ks ∧ TN H b k ∧ Q (.bl (if neg then !decide (k ∈ ks) else decide (k ∈ ks))) H
theorem op_inT (hu : X.A.units + 65 < cLine) : OpR X (compareOp .In) (rInT false) := by
  intro pins s σ H x y v u Q I rx ry h
  obtain ⟨p, b, as, ks, k, rfl, rfl, hp, ha, hb, q⟩ := h
  cases rx
  cases ry
  obtain ⟨_, its, r, o, ho, hc, n, hd⟩ := I.hok p _ hp
  have r1 : Reads s.heap (.ref p) (.tuple (ks.map fun k => PyData.tuple (k.map .int))) [] := Reads.tuple ho hc hd (reads_all I ha r)
  refine SeqAt.in_tuple_reads r1 (reads_TI I hb) (lay_tups ks) (lay_tup k) (by rw [depth_tup]; omega) ?_
  rw [any_tups]
  exact ⟨.bl _, H, I, rfl, q⟩
theorem op_notInT (hu : X.A.units + 65 < cLine) : OpR X (compareOp .NotIn) (rInT true) := by
  intro pins s σ H x y v u Q I rx ry h
  obtain ⟨p, b, as, ks, k, rfl, rfl, hp, ha, hb, q⟩ := h
  cases rx
  cases ry
  obtain ⟨_, its, r, o, ho, hc, n, hd⟩ := I.hok p _ hp
  have r1 : Reads s.heap (.ref p) (.tuple (ks.map fun k => PyData.tuple (k.map .int))) [] := Reads.tuple ho hc hd (reads_all I ha r)
  refine SeqAt.notIn_tuple_reads r1 (reads_TI I hb) (lay_tups ks) (lay_tup k) (by rw [depth_tup]; omega) ?_
  rw [any_tups]
  exact ⟨.bl _, H, I, rfl, q⟩
end
end TacR
namespace TacR
open PySem PySem.Spec PyProof.Rows L2
/-! ### {k: v for target in iter}, the keys tuples -/
theorem put_tup {X : Cx} {pins : List (Addr × Obj)} {σ : L2.St} {H : Hp} {s : Shared} {E : Value → Shared → Prop} {D b : Addr} {kvs : List (List Key × V)} {k : List Key} {v : V} {r : Value} {Q : Unit → Shared → Prop} (hu : X.A.units + 1 < cLine) (I : Inv X pins σ H s)
    (hD : H D = some (.dT kvs)) (hb : H b = some (.tup (k.map kV))) (hz : kvs.length < sizeLine) (rv : RelV v r) (h : ∀ s', Inv X pins σ (upd H D (.dT (putK kvs k v))) s' → Q () s') : wpAny (model X.prog X.w) X.A (dictSet D (.ref b) r) Q E s := by
  obtain ⟨z, hd, xs, rel, dd⟩ := dt_of I.hok hD
  have hzx : xs.length ≤ sizeLine := by
    rw [← Paired.length rel]
    exact z
  have hl : (putK kvs k v).length ≤ sizeLine := by
    have := length_putK kvs k v
    omega
  refine wpAny_dictSet_heap (hsz := hzx) (show X.A.units < cLine by omega) (key_of I.hok hb) dd fun h' dd' hs => h _ ?_
  obtain ⟨q, es, ep, hq, h2, h3, h4, _, h5⟩ := dd'
  refine d_write I (by rw [hD]; exact True.intro) hs ⟨q, hq⟩ ⟨hl, hd, _, (rel.put k hb rv).keeps fun c ys ec => ?_, q, es, ep, hq, h2, h3, h4, h5⟩
  rw [upd_ne (ne_of ec hD fun z => nomatch z)]
  exact ec
@[irreducible] def tDcT (wi : L2.TI) (g : TG) (tk tv : TE) (vs : List Nat) : TE := fun σ H Q => wi σ H fun J H1 => ∀ D, H1 D = none → ∃ W : Nat → Nat → Hp → Prop, (∃ m, W 0 m (upd H1 D (.dT []))) ∧ ∀ i m H, W i m H →
  (J.stop i H ∧ Q (.ref D) H) ∨ (J.go i H ∧ ∃ Nx : Hp → Prop, (∀ H', Nx H' → ∃ m', m' < m ∧ W (i + 1) m' H') ∧ ∀ x H', J.yld i H x H' → g x (wipe σ vs) H' fun σ2 H2 => wipe σ2 vs = wipe σ vs ∧
    tk σ2 H2 fun y H4 => tv σ2 H4 fun z H5 => ∃ kvs b k, y = .ref b ∧ H5 b = some (.tup (k.map kV)) ∧ H5 D = some (.dT kvs) ∧ kvs.length < sizeLine ∧ Nx (upd H5 D (.dT (putK kvs k z))))
section
variable {X : Cx}
theorem pe_dcT {kx vx tg iter : Expr} {scope : Scope} {own : List (Str × Nat)} {pos : Pos} {wi : L2.TI} {g : TG} {tk tv : TE} (hu : X.A.units + 1 < cLine) (hc : X.calm = true) (hN : X.N.Nodup) (hi : PI X tg iter wi) (ok : BlkOk X.N X.env.scope scope own)
    (hg : ∀ (s : Shared) (H : Hp) (C : Addr) (cl : List (Str × Addr)) (fp : List Addr), PG (X.blk s H scope (compEnvC scope cl C X.env) fp) tg g)
    (hk : ∀ (s : Shared) (H : Hp) (C : Addr) (cl : List (Str × Addr)) (fp : List Addr), PE (X.blk s H scope (compEnvC scope cl C X.env) fp) kx tk)
    (he : ∀ (s : Shared) (H : Hp) (C : Addr) (cl : List (Str × Addr)) (fp : List Addr), PE (X.blk s H scope (compEnvC scope cl C X.env) fp) vx tv) (hs : ∀ x, foldedSetIterable iter X.env x = pure x := by intro _; rfl) :
    PE X (.DictComp kx vx [⟨tg, iter, [], 0⟩] scope pos) (tDcT wi g tk tv (own.map (·.2))) := by
  refine ⟨fun pins s σ H Q I h => ?_⟩
  unfold tDcT at h
  rw [arm_eval_DictComp]
  have cells : ∀ y ∈ scope.names, y.2 = .free → ∃ c, X.env.cells.lookup y.1 = some c := by
    intro y hy e
    exact I.ok.has _ (ok.free y hy e)
  refine wpAny_comprehension_free (use := none) rfl hs (closure_ok cells) ok.kind (fun y hy e => by rw [ok.uniq y hy, e]) ?_
  refine thn (hi.run pins s σ H _ I h) fun xv s1 hx => thn hx fun itv s2 ⟨it, fp, tn, J, H2, e, I2, T, st2, f2, q⟩ => ?_
  subst e
  refine wpAny_newObj_type (newEnv_comp ?_)
  generalize hD : s2.heap.objs.size = D
  obtain ⟨W, ⟨m0, w0⟩, turn⟩ := q D (I2.hok.fresh (Nat.le_of_eq hD))
  -- the dict is laid
  have kept : ∀ b o, s2.heap.get? b = some o → (s2.heap.push { cls := .type "dict", data := .dict #[] }).get? b = some o := fun b o e => Heap.get?_push_of_some _ e
  have I3 : Inv X pins σ (upd H2 D (.dT [])) { s2 with heap := s2.heap.push { cls := .type "dict", data := .dict #[] } } :=
    I2.laid (t' := s2.toks) kept (Nat.le_of_eq hD) (by rw [← hD]; exact dt_empty s2.heap I2.big)
  have low : ∀ b ∈ fp, b < s2.heap.objs.size := fun b hb => by
    obtain ⟨o, e, _⟩ := T.obj _ _ st2 b hb
    exact Heap.lt_size e
  generalize hh3 : s2.heap.push { cls := .type "dict", data := .dict #[] } = h3 at I3 kept ⊢
  have sz3 : h3.objs.size = s2.heap.objs.size + 1 := by rw [← hh3, Heap.size_push]
  have f3 : ∀ b ∈ fp, FpOk X pins (upd H2 D (.dT [])) b ∧ b < h3.objs.size := fun b hb => by
    have l := low b hb
    refine ⟨⟨?_, (f2 b hb).2⟩, by rw [sz3]; exact Nat.lt_succ_of_lt l⟩
    rw [upd_ne (by rw [← hD]; exact Nat.ne_of_lt l)]
    exact (f2 b hb).1
  have st3 : tn 0 h3 := T.keep _ _ _ st2 fun b _ o e => kept b o e
  generalize hH3 : upd H2 D (.dT []) = H3 at I3 w0 f3
  -- the block
  have I4 := block_start I3 ok hN f3
  have pg := hg { s2 with heap := h3 } H3 h3.objs.size (cellsFrom (h3.objs.size + 1) scope.names (cloFrom X.env.cells scope.names [])) fp
  have pk := hk { s2 with heap := h3 } H3 h3.objs.size (cellsFrom (h3.objs.size + 1) scope.names (cloFrom X.env.cells scope.names [])) fp
  have pe := he { s2 with heap := h3 } H3 h3.objs.size (cellsFrom (h3.objs.size + 1) scope.names (cloFrom X.env.cells scope.names [])) fp
  show codeAny _ _ (.compStart (.DictComp kx vx [⟨tg, iter, [], 0⟩] scope pos) 0 (.ref it) (.ref D) (compEnvC scope (cellsFrom (h3.objs.size + 1) scope.names (cloFrom X.env.cells scope.names [])) h3.objs.size X.env)) _ { s2 with heap := pushCells (h3.push { cls := .type "dict", data := .dict #[] }) scope.names }
  generalize hce : compEnvC scope (cellsFrom (h3.objs.size + 1) scope.names (cloFrom X.env.cells scope.names [])) h3.objs.size X.env = ce at I4 pg pk pe ⊢
  have cL : ce.locals = h3.objs.size := by rw [← hce]; rfl
  have st4 : tn 0 (pushCells (h3.push { cls := .type "dict", data := .dict #[] }) scope.names) := T.keep _ _ _ st3 fun b _ o e => pushCells_keeps _ _ _ _ (Heap.get?_push_of_some _ e)
  generalize hs4 : ({ s2 with heap := pushCells (h3.push { cls := .type "dict", data := .dict #[] }) scope.names } : Shared) = s4 at I4 ⊢
  have st4 : tn 0 s4.heap := by rw [← hs4]; exact st4
  suffices loop : codeAny (model X.prog X.w) X.A (.compLoop (.DictComp kx vx [⟨tg, iter, [], 0⟩] scope pos) 0 (.ref it) (.ref D) ce) (compPost (model X.prog X.w) X.A X.xe none (EP X pins σ Q) (.ref D) h3.objs.size) s4 from codeAny_compStart_dict loop (T.self X.A 0 _ _ _ st4 loop)
  refine compLoop_anyD (fun n s' => ∃ i H', Inv (X.blk { s2 with heap := h3 } H3 scope ce fp) [] (wipe σ (own.map (·.2))) H' s' ∧ tn i s'.heap ∧ (∀ b ∈ fp, H' b = none) ∧ W i n H') ?_ m0 ⟨0, H3, I4, st4, fun b hb => (f3 b hb).1.1, w0⟩
  rintro n s5 ⟨i, H5, I5, st5, n5, w5⟩
  have fpok : ∀ {σ' : L2.St} {H' : Hp} {s' : Shared}, Inv (X.blk { s2 with heap := h3 } H3 scope ce fp) [] σ' H' s' → (∀ b ∈ fp, H' b = none) → ∀ b ∈ fp, FpOk (X.blk { s2 with heap := h3 } H3 scope ce fp) [] H' b := by
    intro σ' H' s' I' hn b hb
    exact ⟨hn b hb, (I'.ok.exf b hb).1, I'.ok.exfs b hb, .inl hb, (I'.ok.exf b hb).2, fun p hp => by cases hp⟩
  rcases turn i n H5 w5 with ⟨stop, qq⟩ | ⟨go, Nx, hNx, step⟩
  · refine thnF (T.done (X.blk { s2 with heap := h3 } H3 scope ce fp) rfl rfl rfl hc i [] s5 _ H5 (fun _ _ => False) I5 (fpok I5 n5) st5 stop) fun r s6 ⟨hr, I6⟩ => ?_
    subst hr
    have I7 : Inv X pins σ H5 s6 := I3.call' (ch := fp) I6.os I6.base I6.hok I6.bare fun b hb => ⟨(f3 b hb).1.2.2.2.1, (f3 b hb).1.2.1, (f3 b hb).1.2.2.2.2.1, (f3 b hb).1.2.2.2.2.2⟩
    have nC : H5 h3.objs.size = none := by
      rw [← cL]
      exact I6.free
    obtain ⟨m, hn, _⟩ := I6.loc
    have hn : s6.heap.Ns h3.objs.size m := by
      rw [← cL]
      exact hn
    obtain ⟨g0, g1, g2, g3, g4, g5⟩ := I3.fpOk (Nat.le_refl _) nC
    exact ⟨m, hn, fun h'' sb => ⟨.ref D, H5, I7.turned (t' := s6.toks) (fun b o hb e => (sb.2 b hb).trans e) g0 g1 g3 g4 g5, rfl, qq⟩⟩
  · refine thnF (T.item (X.blk { s2 with heap := h3 } H3 scope ce fp) rfl rfl rfl hc i [] s5 _ H5 (fun _ _ => False) I5 (fpok I5 n5) st5 go) fun r s6 ⟨u, hr, h6⟩ => ?_
    subst hr
    refine thnF h6 fun _ s7 ⟨x, H7, I7, r7, y7, st7, n7⟩ => ?_
    refine thnF (pg.run _ s7 _ H7 x u _ (I7.pinned (fpok I7 n7) (T.obj _ _ st7)) r7 (step x H7 y7)) fun _ s8 ⟨σ8, H8, I8, hw8, q8⟩ => ?_
    refine wpAny_tests_nil ?_
    rw [if_pos rfl]
    refine thnF (pk.run _ s8 σ8 H8 _ I8 q8) fun zk s9 ⟨yk, H9, I9, r9, q9⟩ => ?_
    refine thnF (pe.run _ s9 σ8 H9 _ I9 q9) fun zv s10 ⟨yv, H10, I10, r10, kvs, b, k, ek, hb, hD10, hz, nx⟩ => ?_
    subst ek
    obtain rfl : zk = .ref b := r9
    refine put_tup (X := X.blk { s2 with heap := h3 } H3 scope ce fp) hu I10 hD10 hb hz r10 fun s11 I11 => ?_
    obtain ⟨m', hm, w'⟩ := hNx _ nx
    have pin : ∀ b ∈ fp, ∀ o, s7.heap.get? b = some o → s11.heap.get? b = some o ∧ (upd H10 D (.dT (putK kvs k yv))) b = none := fun b hb o e => by
      have z := I11.pin (b, o) (List.mem_append_right _ (List.mem_append_right _ (mem_pinsAt hb e)))
      exact ⟨z.1, z.2.1⟩
    refine ⟨m', hm, i + 1, _, (I11.unpinned (pins := [])).weak (by rw [← hw8, wipe_length]) (fun j v e => ?_), T.keep _ _ _ st7 fun b hb o e => (pin b hb o e).1, fun b hb => ?_, w'⟩
    · rw [← hw8] at e
      exact (wipe_some e).1
    · obtain ⟨o, e, _⟩ := T.obj _ _ st7 b hb
      exact (pin b hb o e).2
/-- over a tuple that stays -/
theorem dcT_tup {K : PySem.W.Frag} {a : Addr} {xs : List V} {g : TG} {tk tv : TE} {vs : List Nat} {σ : L2.St} {H1 : Hp} {D : Addr} {Qd : Hp → Prop} (Pv : Nat → Hp → Prop) (h0 : Pv 0 (upd H1 D (.dT []))) (hl : ∀ i H, i ≤ xs.length → Pv i H → SqT K H a xs)
    (hs : ∀ i x H, xs[i]? = some x → Pv i H → g x (wipe σ vs) H fun σ2 H2 => wipe σ2 vs = wipe σ vs ∧
      tk σ2 H2 fun y H4 => tv σ2 H4 fun z H5 => ∃ kvs b k, y = .ref b ∧ H5 b = some (.tup (k.map kV)) ∧ H5 D = some (.dT kvs) ∧ kvs.length < sizeLine ∧ Pv (i + 1) (upd H5 D (.dT (putK kvs k z)))) (hd : ∀ H, Pv xs.length H → Qd H) :
    ∃ W : Nat → Nat → Hp → Prop, (∃ m, W 0 m (upd H1 D (.dT []))) ∧ ∀ i m H, W i m H →
      ((Itt K a).stop i H ∧ Qd H) ∨ ((Itt K a).go i H ∧ ∃ Nx : Hp → Prop, (∀ H', Nx H' → ∃ m', m' < m ∧ W (i + 1) m' H') ∧ ∀ x H', (Itt K a).yld i H x H' → g x (wipe σ vs) H' fun σ2 H2 => wipe σ2 vs = wipe σ vs ∧
        tk σ2 H2 fun y H4 => tv σ2 H4 fun z H5 => ∃ kvs b k, y = .ref b ∧ H5 b = some (.tup (k.map kV)) ∧ H5 D = some (.dT kvs) ∧ kvs.length < sizeLine ∧ Nx (upd H5 D (.dT (putK kvs k z)))) := by
  refine ⟨fun i m H => m + i = xs.length ∧ Pv i H, ⟨xs.length, Nat.add_zero _, h0⟩, ?_⟩
  rintro i m H ⟨hm, p⟩
  have q := hl i H (by omega) p
  cases m with
  | zero =>
    have e : i = xs.length := by omega
    subst e
    exact .inl ⟨⟨xs, q, Nat.le_refl _⟩, hd H p⟩
  | succ m =>
    have hlt : i < xs.length := by omega
    refine .inr ⟨⟨xs, xs[i], q, by simp [hlt]⟩, Pv (i + 1), fun H' p' => ⟨m, Nat.lt_succ_self _, by omega, p'⟩, fun x H' y => ?_⟩
    obtain ⟨e, y⟩ := y
    subst e
    exact hs i x _ (y xs q) p
end
end TacR
namespace Tac
open PySem PySem.Spec PyProof.Rows L2 TacR
/-! ### the text by places -/
def top (i : Nat) : Stmt := PySem.Challenge.pw_tacet_k42_whole_closed_sets_are_closed.main.body.getD i (.Pass ⟨0, 0, 0, 0⟩)
abbrev FnP (K : PySem.W.Frag) (x q : Str) (st : Stmt) (f : Addr) (fd : FuncData) : Prop := FunD K x q (defArgs st) (defBody st) (defScope st) [] [] f fd
theorem FnP.ok {P : Program} {w : World} {K : PySem.W.Frag} {mg : Str → Option Value} {base : Heap} {x q : Str} {st : Stmt} {f : Addr} {fd : FuncData} {N ps : List Str} {k : Nat} {sp : Sp} (F : FnP K x q st f fd) (S : FnScope N ps (defScope st))
    (len : ∀ vs H Q E, sp vs H Q E → vs.length = ps.length)
    (body : ∀ (cdv : Value) (A : Around) (outer : List Env) (s : Shared) (H : Hp) (vs : List V) (Q : VK) (E : XK), Room k (A.deeper (envOfC q (defScope st) s.heap.objs.size f cdv)) → sp vs H Q E →
      ∃ t, PSs (cxOf CX0 P w K mg base N q (defScope st) f cdv A outer s H E).nox (defBody st) t ∧ t { nx := fun _ H' => Q .non H', rt := Q } (start N vs) H) : FnOk P w K mg base CX0 (k + 1) f fd ps sp :=
  FunD.ok F S len fun cdv A outer s H vs Q E hr h => by
    obtain ⟨t, a, b⟩ := body cdv A outer s H vs Q E hr h
    exact ⟨t, a.nox, b⟩
/-- the built-in names stand as they are, the constants too -/
structure Gx (mg : Str → Option Value) : Prop where
  isi : mg "isinstance" = none
  all : mg "all" = none
  range : mg "range" = none
  len : mg "len" = none
  tuple : mg "tuple" = none
  sorted : mg "sorted" = none
  list : mg "list" = none
  int : mg "int" = none
  abs : mg "abs" = none
  dict : mg "dict" = none
  min : mg "min" = none
  max : mg "max" = none
  bool : mg "bool" = none
  stop : ∃ t, mg "STOP" = some (.int (-1) t)
  rows : ∃ t, mg "MOST_ROWS" = some (.int 64 t)
  elems : ∃ t, mg "MOST_ELEMENTS" = some (.int 3000 t)
/-! ### tuples stay -/
def TX (H H' : Hp) : Prop := ∀ b xs, H b = some (.tup xs) → H' b = some (.tup xs)
theorem TX.refl (H : Hp) : TX H H := fun _ _ h => h
theorem TX.trans {H H1 H2 : Hp} (a : TX H H1) (b : TX H1 H2) : TX H H2 := fun c xs h => b c xs (a c xs h)
theorem TX.new {H : Hp} {p : Addr} {o : HO} (h : H p = none) : TX H (upd H p o) := fun b xs e => by
  rw [upd_ne (ne_of_none e h)]
  exact e
theorem TX.mut {H : Hp} {p : Addr} {o u : HO} (h : H p = some u) (hu : ∀ xs, u ≠ .tup xs) : TX H (upd H p o) := fun b xs e => by
  rw [upd_ne (ne_of e h (hu xs).symm)]
  exact e
theorem TX.same {H H' : Hp} (h : Same H H') : TX H H' := fun b xs e => h b _ e
theorem TN.keep {H H' : Hp} {a : Addr} {ns : List Int} (k : TX H H') (h : TN H a ns) : TN H' a ns := k a _ h
/-- a tuple of tuples of ints -/
def T2 (H : Hp) (a : Addr) (A : List (List Int)) : Prop := ∃ as, H a = some (.tup (as.map V.ref)) ∧ Paired (TN H) as A
theorem T2.keep {H H' : Hp} {a : Addr} {A : List (List Int)} (k : TX H H') (h : T2 H a A) : T2 H' a A := by
  obtain ⟨as, h1, h2⟩ := h
  exact ⟨as, k a _ h1, Paired.mono (fun b ns q => TN.keep k q) h2⟩
def rlL (u : Rl) : List Int := [u.1, u.2.1, u.2.2]
/-- a machine -/
def TM (H : Hp) (a : Addr) (m : MchT) : Prop := ∃ as, H a = some (.tup (as.map V.ref)) ∧ Paired (fun b r => T2 H b (r.map rlL)) as m
theorem TM.keep {H H' : Hp} {a : Addr} {m : MchT} (k : TX H H') (h : TM H a m) : TM H' a m := by
  obtain ⟨as, h1, h2⟩ := h
  exact ⟨as, k a _ h1, Paired.mono (fun b ns q => T2.keep k q) h2⟩
theorem paired_at {α β : Type} {F : α → β → Prop} : ∀ {l : List α} {m : List β}, Paired F l m → ∀ (i : Nat), i < m.length → ∃ a b, l[i]? = some a ∧ m[i]? = some b ∧ F a b
  | _, _, .nil, i, h => absurd h (Nat.not_lt_zero _)
  | _, _, .cons h t, 0, _ => ⟨_, _, rfl, rfl, h⟩
  | _, _, .cons h t, i + 1, hi => by
    obtain ⟨a, b, h1, h2, h3⟩ := paired_at t i (Nat.lt_of_succ_lt_succ hi)
    exact ⟨a, b, by simpa using h1, by simpa using h2, h3⟩
theorem atI_lt {α : Type} {xs : List α} {i : Int} {v : α} (h0 : 0 ≤ i) (h : xs[i.toNat]? = some v) : atI xs i = some v := by
  have : i = ((i.toNat : Nat) : Int) := by omega
  rw [this]
  exact atI_nat h
theorem T2.len {H : Hp} {a : Addr} {A : List (List Int)} (h : T2 H a A) : ∃ xs, H a = some (.tup xs) ∧ xs.length = A.length := by
  obtain ⟨as, h1, h2⟩ := h
  exact ⟨_, h1, by rw [List.length_map]; exact h2.length⟩
theorem TM.len {H : Hp} {a : Addr} {A : MchT} (h : TM H a A) : ∃ xs, H a = some (.tup xs) ∧ xs.length = A.length := by
  obtain ⟨as, h1, h2⟩ := h
  exact ⟨_, h1, by rw [List.length_map]; exact h2.length⟩
/-- the i-th row -/
theorem T2.row {H : Hp} {a : Addr} {A : List (List Int)} (h : T2 H a A) {q : Int} (hq : Lt A.length q) : ∃ b xs r, H a = some (.tup xs) ∧ atI xs q = some (.ref b) ∧ TN H b r ∧ A[q.toNat]? = some r := by
  obtain ⟨as, h1, h2⟩ := h
  obtain ⟨b, r, e1, e2, e3⟩ := paired_at h2 q.toNat (by unfold Lt at hq; omega)
  exact ⟨b, _, r, h1, atI_lt hq.1 (by rw [List.getElem?_map, e1]; rfl), e3, e2⟩
theorem TN.at {H : Hp} {b : Addr} {r : List Int} (h : TN H b r) {x : Int} (hx : Lt r.length x) : atI (r.map V.int) x = some (.int (r[x.toNat]?.getD 0)) := by
  refine atI_lt hx.1 ?_
  have : x.toNat < r.length := by unfold Lt at hx; omega
  rw [List.getElem?_map, List.getElem?_eq_getElem this]
  rfl
/-- A[q][x] -/
theorem T2.at {H : Hp} {a : Addr} {A : AutT} (h : T2 H a A) {k : Nat} {q x : Int} (hA : Aut A k) (hq : Lt A.length q) (hx : Lt k x) :
    ∃ b xs ys, H a = some (.tup xs) ∧ atI xs q = some (.ref b) ∧ H b = some (.tup ys) ∧ atI ys x = some (.int (nx A q x)) := by
  obtain ⟨b, xs, r, h1, h2, h3, h4⟩ := h.row hq
  have hr : r ∈ A := List.mem_of_getElem? h4
  refine ⟨b, xs, _, h1, h2, h3, ?_⟩
  rw [TN.at h3 (by rw [(hA.row r hr).1]; exact hx)]
  unfold nx
  rw [h4]
  rfl
/-- m[s][x], a rule -/
theorem TM.at {H : Hp} {a : Addr} {m : MchT} {ns k : Nat} (h : TM H a m) (hM : Mch m ns k) {s x : Int} (hs : Lt ns s) (hx : Lt k x) :
    ∃ b xs c ys, H a = some (.tup xs) ∧ atI xs s = some (.ref b) ∧ H b = some (.tup ys) ∧ atI ys x = some (.ref c) ∧ TN H c (rlL (rl m s x)) := by
  obtain ⟨as, h1, h2⟩ := h
  obtain ⟨b, r, e1, e2, e3⟩ := paired_at h2 s.toNat (by rw [hM.len]; unfold Lt at hs; omega)
  have hr := hM.row r (List.mem_of_getElem? e2)
  have hx2 : Lt (r.map rlL).length x := by rw [List.length_map, hr.1]; exact hx
  obtain ⟨c, ys, r2, g1, g2, g3, g4⟩ := e3.row hx2
  refine ⟨b, _, c, ys, h1, atI_lt hs.1 (by rw [List.getElem?_map, e1]; rfl), g1, g2, ?_⟩
  unfold rl
  rw [e2]
  rw [List.getElem?_map] at g4
  cases e : r[x.toNat]? with
  | none => rw [e] at g4; cases g4
  | some u =>
    rw [e] at g4
    have : rlL u = r2 := Option.some.inj g4
    show TN H c (rlL ((r[x.toNat]?).getD (0, 1, -1)))
    have e5 : (r[x.toNat]?).getD (0, 1, -1) = u := by rw [e]; rfl
    rw [e5, this]
    exact g3
/-- m[0] is a row of k rules -/
theorem TM.row0 {H : Hp} {a : Addr} {m : MchT} {ns k : Nat} (h : TM H a m) (hM : Mch m ns k) : ∃ b xs ys, H a = some (.tup xs) ∧ atI xs 0 = some (.ref b) ∧ H b = some (.tup ys) ∧ ys.length = k := by
  obtain ⟨as, h1, h2⟩ := h
  obtain ⟨b, r, e1, e2, e3⟩ := paired_at h2 0 (by rw [hM.len]; exact hM.sPos)
  have hr := hM.row r (List.mem_of_getElem? e2)
  obtain ⟨ys, g1, g2⟩ := e3.len
  exact ⟨b, _, ys, h1, atI_lt (Int.le_refl _) (by rw [List.getElem?_map]; show (as[0]?).map V.ref = _; rw [e1]; rfl), g1, by rw [g2, List.length_map, hr.1]⟩
/-! ### rules whose written part is told -/
def rLenK (K : PySem.W.Frag) : List V → Hp → VK → Prop := fun xs H Q => ∃ p ys, xs = [.ref p] ∧ (SqL K H p ys ∨ SqT K H p ys) ∧ Q (.int ys.length) H
theorem len_K {X : Cx} {K : PySem.W.Frag} (e : X.K = K) : CallR X (.builtin "len") (rLenK K) := by
  subst e
  exact call_len_seq
theorem ixT_K {X : Cx} {K : PySem.W.Frag} (e : X.K = K) : IxR X (rIxT K) := by
  subst e
  exact ix_tup
theorem ixL_K {X : Cx} {K : PySem.W.Frag} (e : X.K = K) : IxR X (rIxL K) := by
  subst e
  exact ix_list
theorem isi_K {X : Cx} {K : PySem.W.Frag} (e : X.K = K) : CallR X (.builtin "isinstance") (rIsi K) := by
  subst e
  exact call_isi
theorem ltT_K {X : Cx} {K : PySem.W.Frag} (e : X.K = K) (hu : X.A.units < cLine) : OpR X (compareOp .Lt) (rLtT K) := by
  subst e
  exact op_ltT hu
/-- a comprehension without tests -/
theorem yesT {σ : L2.St} {H : Hp} {R N : Hp → Prop} (h : R H) : tYes σ H fun b H3 => if b = true then R H3 else N H3 := by
  show if true = true then R H else N H
  exact iteT h
theorem iteD {c A B : Prop} [Decidable c] (hc : c) (h : A) : if decide c = true then A else B := by
  rw [decide_eq_true hc]
  exact iteT h
theorem iteDN {c A B : Prop} [Decidable c] (hc : ¬ c) (h : B) : if decide c = true then A else B := by
  rw [decide_eq_false hc]
  exact iteF h
theorem sz1000 {n : Nat} (h : n ≤ 100000) : n ≤ sizeLine := by rw [sizeLine_eq]; omega
theorem szlt {n : Nat} (h : n < 100000) : n < sizeLine := by rw [sizeLine_eq]; omega
end Tac
namespace Tac
open PySem PySem.Spec PyProof.Rows L2 TacR
section
variable {P : Program} {w : World} {K : PySem.W.Frag} {mg : Str → Option Value} {base : Heap}
/-! ### is_number -/
def spNum : Sp := fun vs H Q _ => ∃ v n : Int, vs = [.int v, .int n] ∧ 0 ≤ v ∧ v < n ∧ Q (.bl true) H
theorem scNum : FnScope ["value", "many"] ["value", "many"] (defScope (top 7)) := ⟨rfl, rfl, rfl, by decide +kernel, rfl, by decide +kernel, by decide +kernel⟩
theorem ok_num {f : Addr} {fd : FuncData} (F : FnP K "is_number" "is_number" (top 7) f fd) (G : Gx mg) : FnOk P w K mg base CX0 1 f fd ["value", "many"] spNum := by
  refine F.ok scNum (fun vs H Q E h => ?_) (fun cdv A outer s H vs Q E hr h => ?_)
  · obtain ⟨v, n, rfl, _⟩ := h
    rfl
  · obtain ⟨v, n, rfl, h0, h1, k⟩ := h
    refine ⟨_, pss_one (ps_ret (pe_and (pe_callB call_isi (by rfl) G.isi boot_isinstance (pa_cons (pv 0) (pa_cons (pe_bltn (v := .ty "int") (by rfl) G.int (by decide +kernel) rfl) pa_nil)))
      (pe_and (pe_not (pe_callB call_isi (by rfl) G.isi boot_isinstance (pa_cons (pv 0) (pa_cons (pe_bltn (v := .ty "bool") (by rfl) G.bool (by decide +kernel) rfl) pa_nil))))
        (pe_one (pe_chain op_le op_lt pe_int (pv 0) (pv 1)))))), ?_⟩
    refine ⟨_, rfl, _, _, .type "int", .type "int", true, rfl, .ty _, .base (.int _), kit_ty (by decide +kernel), true, rfl, ?_⟩
    refine iteT ⟨_, rfl, _, _, .type "int", .type "bool", false, rfl, .ty _, .base (.int _), kit_ty (by decide +kernel), false, rfl, true, rfl, iteT ?_⟩
    refine ⟨_, rfl, _, _, rfl, rfl, _, rfl, ?_⟩
    rw [decide_eq_true h0]
    refine iteT ⟨_, rfl, _, _, rfl, rfl, ?_⟩
    show Q (.bl (decide (v < n))) H
    rw [decide_eq_true h1]
    exact k
/-! ### is_automaton -/
theorem rep_snoc {α : Type} (i : Nat) (x : α) : List.replicate i x ++ [x] = List.replicate (i + 1) x := List.replicate_succ'.symm
theorem rep_all (i : Nat) : (List.replicate i true).all id = true := by
  induction i with
  | zero => rfl
  | succ n ih => rw [List.replicate_succ, List.all_cons, ih]; rfl
theorem sql_rep {H : Hp} {D : Addr} {i : Nat} (h : H D = some (.lst (List.replicate i (V.bl true)))) : SqL K H D ((List.replicate i true).map V.bl) := by
  rw [List.map_replicate]
  exact SqL.of h
/-- a new object, then all that was tracked stands -/
theorem Same.new {H : Hp} {p : Addr} {o : HO} (h : H p = none) : Same H (upd H p o) := fun b u e => by
  rw [upd_ne (ne_of_none e h)]
  exact e
/-- an object that H does not know may change -/
theorem Same.mut {H H' : Hp} {p : Addr} {o : HO} (s : Same H H') (h : H p = none) : Same H (upd H' p o) := fun b u e => by
  rw [upd_ne (ne_of_none e h)]
  exact s b u e
def spAut : Sp := fun vs H Q _ => ∃ (a : Addr) (A : AutT) (k : Nat), vs = [.ref a, .int k] ∧ T2 H a A ∧ Aut A k ∧ 0 < k ∧ k ≤ 4 ∧ ∀ H', Same H H' → Q (.bl true) H'
theorem scAut : FnScope ["value", "symbols", "row", "other"] ["value", "symbols"] (defScope (top 8)) := ⟨rfl, rfl, rfl, by decide +kernel, rfl, by decide +kernel, by decide +kernel⟩
theorem ok_aut {f fN : Addr} {fd fdN : FuncData} (F : FnP K "is_automaton" "is_automaton" (top 8) f fd) (G : Gx mg) (FN : FnP K "is_number" "is_number" (top 7) fN fdN) (gN : mg "is_number" = some (.ref fN)) : FnOk P w K mg base CX0 2 f fd ["value", "symbols"] spAut := by
  have GN : FnOk P w K mg base CX0 1 fN fdN ["value", "many"] spNum := ok_num FN G
  have bN : Binds K fdN ["value", "many"] [] := FN.bindsN fun _ _ _ _ _ _ us hl => match us, hl with | [_, _], _ => rfl
  obtain ⟨tR, hR⟩ := G.rows
  refine F.ok scAut (fun vs H Q E h => ?_) (fun cdv A outer s H vs Q E hr h => ?_)
  · obtain ⟨a, A, k, rfl, _⟩ := h
    rfl
  · obtain ⟨a, A, k, rfl, hT, hA, hk, hk4, q⟩ := h
    refine ⟨_, pss_cons (ps_if (PW.pt (pw_or (pt_not (pt_val (pe_callB call_isi (by rfl) G.isi boot_isinstance (pa_cons (pv 0) (pa_cons (pe_bltn (v := .ty "tuple") (by rfl) G.tuple (by decide +kernel) rfl) pa_nil)))))
        (pw_or1 (pt_not (pt_chain op_le op_le pe_int (pe_callB (len_K (K := K) rfl) (by rfl) G.len PySem.boot_len (pa_cons (pv 0) pa_nil)) (pe_glob (v := .int 64) rfl hR ⟨_, rfl⟩)))))) pss_never pss_nil)
      (pss_cons (ps_for PassesOwn.never rfl (pi_tup (pv 0)) (pg_name (i := 2) scAut.nd rfl (Or.inl rfl))
        (pss_cons (ps_if (PW.pt (pw_or (pt_not (pt_val (pe_callB call_isi (by rfl) G.isi boot_isinstance (pa_cons (pv 2) (pa_cons (pe_bltn (v := .ty "tuple") (by rfl) G.tuple (by decide +kernel) rfl) pa_nil)))))
            (pw_or1 (pt_cmpR op_ne (pe_callB (len_K (K := K) rfl) (by rfl) G.len PySem.boot_len (pa_cons (pv 2) pa_nil)) (pv 1) (nomark _))))) pss_never pss_nil)
        (pss_one (ps_if (pt_not (pt_val (pe_callB (cr_all rfl) (by rfl) G.all (by decide +kernel) (pa_cons
            (pe_lc (own := [("other", 3)]) (g := gName 3) (tt := tYes) rfl scAut.nd (pi_tup (pv 2)) (blkOk_by (N := ["value", "symbols", "row", "other"]) (sc := defScope (top 8)) (by decide +kernel)) (fun _ _ _ _ _ => pg_name (i := 3) scAut.nd rfl (Or.inl rfl)) (fun _ _ _ _ _ => pts_nil)
              (fun _ _ _ _ _ => pe_call GN hr (by rfl) gN FN.kp bN .nil pass0 (pa_cons (pv 3) (pa_cons (pe_callB (len_K (K := K) rfl) (by rfl) G.len PySem.boot_len (pa_cons (pv 0) pa_nil)) pa_nil)))) pa_nil)))) pss_never pss_nil))))
      (pss_one (ps_ret (pe_cmpR op_eq (pe_ix ix_tup (pe_ix ix_tup (pv 0) pe_int (fun _ _ => rfl)) pe_int (fun _ _ => rfl)) pe_int (nomark _))))), ?_⟩
    obtain ⟨as, hv, hrows⟩ := id hT
    have hlen : as.length = A.length := Paired.length hrows
    have h1 := hA.pos
    have h9 := hA.le
    refine ⟨_, rfl, _, _, .type "tuple", .type "tuple", true, rfl, .ty _, .base (.tup hv), kit_ty (by decide +kernel), true, rfl, iteF ?_⟩
    refine ⟨_, rfl, a, _, rfl, .inr (SqT.of hv), _, _, rfl, rfl, _, rfl, ?_⟩
    rw [List.length_map, hlen, decide_eq_true (show (1 : Int) ≤ (A.length : Int) by omega)]
    refine iteT ⟨_, _, rfl, rfl, _, rfl, ?_⟩
    rw [decide_eq_true (show (A.length : Int) ≤ 64 by omega)]
    refine iteF ?_
    -- for row in value
    refine ⟨_, rfl, a, rfl, ⟨_, SqT.of hv⟩, for_tup (K := K) (a := a) (xs := as.map V.ref) (fun i σ H' => Same H H' ∧ ∃ v, σ = [some (.ref a), some (.int k), v, none])
      ⟨Same.refl H, none, rfl⟩ (fun i σ H' _ p => SqT.of (p.1 _ _ hv)) ?_ ?_⟩
    · rintro i x σ H' hx ⟨s1, v, rfl⟩
      obtain ⟨hi, _⟩ := List.getElem?_eq_some_iff.mp hx
      rw [List.length_map] at hi
      obtain ⟨b, r, e1, e2, e3⟩ := paired_at hrows i (by omega)
      rw [List.getElem?_map, e1] at hx
      obtain rfl : V.ref b = x := Option.some.inj hx
      obtain ⟨hrl, hrv⟩ := hA.row r (List.mem_of_getElem? e2)
      have e4 : H' b = some (.tup (r.map V.int)) := s1 _ _ e3
      refine ⟨_, rfl, _, _, .type "tuple", .type "tuple", true, rfl, .ty _, .base (.tup e4), kit_ty (by decide +kernel), true, rfl, iteF ?_⟩
      refine ⟨_, rfl, b, _, rfl, .inr (SqT.of e4), _, rfl, rfl, _, rfl, ?_⟩
      rw [List.length_map, hrl]
      refine iteNS rfl ?_
      -- all([is_number(other, len(value)) for other in row])
      refine ⟨_, rfl, b, rfl, ⟨_, SqT.of e4⟩, fun D hD => lc_tup (K := K) (a := b) (xs := r.map V.int) (fun i H2 => Same H' H2 ∧ H2 D = some (.lst (List.replicate i (V.bl true))))
        ⟨Same.new hD, upd_same⟩ (fun i H2 _ p => SqT.of (p.1 _ _ e4)) ?_ ?_⟩
      · rintro j y H2 hy ⟨s2, d2⟩
        rw [List.getElem?_map] at hy
        cases hz : r[j]? with
        | none => rw [hz] at hy; cases hy
        | some z =>
          rw [hz] at hy
          obtain rfl : V.int z = y := Option.some.inj hy
          have hj := (List.getElem?_eq_some_iff.mp hz).1
          obtain ⟨z0, z1⟩ := hrv z (List.mem_of_getElem? hz)
          refine ⟨rfl, yesT ?_⟩
          refine ⟨_, rfl, _, rfl, a, _, rfl, .inr (SqT.of (s2 _ _ (s1 _ _ hv))), z, _, rfl, z0, ?_, _, d2, szlt (by rw [List.length_replicate]; omega), Same.mut s2 hD, ?_⟩
          · rw [List.length_map, hlen]
            exact z1
          · rw [upd_same, rep_snoc]
      · rintro H2 ⟨s2, d2⟩
        refine ⟨D, _, rfl, sql_rep d2, _, rfl, ?_⟩
        rw [rep_all]
        exact iteF ⟨fun b o e => s2 b o (s1 b o e), _, rfl⟩
    · rintro σ H' ⟨s1, v, rfl⟩
      obtain ⟨b, xs, ys, g1, g2, g3, g4⟩ := (T2.keep (TX.same s1) hT).at (q := 0) (x := 0) hA ⟨Int.le_refl _, by omega⟩ ⟨Int.le_refl _, by omega⟩
      refine ⟨_, rfl, a, xs, 0, _, rfl, rfl, SqT.of g1, g2, b, ys, 0, _, rfl, rfl, SqT.of g3, g4, rfl, ?_⟩
      rw [hA.zero]
      exact q H' s1
end
end Tac
namespace Tac
open PySem PySem.Spec PyProof.Rows L2 TacR
section
variable {P : Program} {w : World} {K : PySem.W.Frag} {mg : Str → Option Value} {base : Heap}
/-! ### are_rows -/
def Asc (rows : List (List Int)) : Prop := rows.Pairwise fun a b => HT.lexLt a b = true
theorem lex_of_lt : ∀ {a b : List Int}, a < b → HT.lexLt a b = true
  | [], [], h => absurd h (List.lt_irrefl _)
  | [], y :: ys, _ => HT.lexLt_nil_cons y ys
  | x :: xs, [], h => by cases h
  | x :: xs, y :: ys, h => by
    rw [HT.lexLt_cons]
    rcases List.cons_lt_cons_iff.mp h with h | ⟨h1, h2⟩
    · rw [if_neg (by omega)]
      exact decide_eq_true h
    · rw [if_pos h1]
      exact lex_of_lt h2
theorem asc_of {rows : List (List Int)} (h : rows.Pairwise (· ≤ ·)) (hn : rows.Nodup) : Asc rows := by
  have h2 : rows.Pairwise (fun a b => a ≤ b ∧ a ≠ b) := h.and hn
  refine h2.imp fun {a b} ⟨h3, h4⟩ => lex_of_lt ?_
  rcases List.le_iff_lt_or_eq.mp h3 with h5 | h5
  · exact h5
  · exact absurd h5 h4
def InB (bs r : List Int) : Prop := r.length = bs.length ∧ ∀ i : Nat, i < bs.length → ∃ v n, r[i]? = some v ∧ bs[i]? = some n ∧ 0 ≤ v ∧ v < n
def spRows : Sp := fun vs H Q _ => ∃ (a b : Addr) (rows : List (List Int)) (bs : List Int), vs = [.ref a, .ref b] ∧ T2 H a rows ∧ TN H b bs ∧ (∀ r ∈ rows, InB bs r) ∧ Asc rows ∧ rows.length ≤ 3000 ∧ bs.length ≤ 4 ∧ ∀ H', Same H H' → Q (.bl true) H'
theorem at_n {xs : List V} {i : Nat} {v : V} (h : xs[i]? = some v) : atI xs (0 + (i : Int)) = some v := at_of (Int.zero_add _) h
theorem map_int {r : List Int} {i : Nat} {v : Int} (h : r[i]? = some v) : (r.map V.int)[i]? = some (.int v) := by rw [List.getElem?_map, h]; rfl
theorem scRows : FnScope ["value", "bounds", "row", "at"] ["value", "bounds"] (defScope (top 9)) := ⟨rfl, rfl, rfl, by decide +kernel, rfl, by decide +kernel, by decide +kernel⟩
theorem ok_rows {f fN : Addr} {fd fdN : FuncData} (F : FnP K "are_rows" "are_rows" (top 9) f fd) (G : Gx mg) (FN : FnP K "is_number" "is_number" (top 7) fN fdN) (gN : mg "is_number" = some (.ref fN)) : FnOk P w K mg base CX0 2 f fd ["value", "bounds"] spRows := by
  have GN : FnOk P w K mg base CX0 1 fN fdN ["value", "many"] spNum := ok_num FN G
  have bN : Binds K fdN ["value", "many"] [] := FN.bindsN fun _ _ _ _ _ _ us hl => match us, hl with | [_, _], _ => rfl
  refine F.ok scRows (fun vs H Q E h => ?_) (fun cdv A outer s H vs Q E hr h => ?_)
  · obtain ⟨a, b, rows, bs, rfl, _⟩ := h
    rfl
  · obtain ⟨a, b, rows, bs, rfl, hT, hB, hin, hasc, hl, hb4, q⟩ := h
    have hu := hr.un
    refine ⟨_, pss_cons (ps_if (pt_not (pt_val (pe_callB (isi_K (K := K) rfl) (by rfl) G.isi boot_isinstance (pa_cons (pv 0) (pa_cons (pe_bltn (v := .ty "tuple") (by rfl) G.tuple (by decide +kernel) rfl) pa_nil))))) pss_never pss_nil)
      (pss_cons (ps_for PassesOwn.never rfl (pi_tup (pv 0)) (pg_name (i := 2) scRows.nd rfl (Or.inr rfl))
        (pss_cons (ps_if (PW.pt (pw_or (pt_not (pt_val (pe_callB (isi_K (K := K) rfl) (by rfl) G.isi boot_isinstance (pa_cons (pv 2) (pa_cons (pe_bltn (v := .ty "tuple") (by rfl) G.tuple (by decide +kernel) rfl) pa_nil)))))
            (pw_or1 (pt_cmpR op_ne (pe_callB (len_K (K := K) rfl) (by rfl) G.len PySem.boot_len (pa_cons (pv 2) pa_nil)) (pe_callB (len_K (K := K) rfl) (by rfl) G.len PySem.boot_len (pa_cons (pv 1) pa_nil)) (nomark _))))) pss_never pss_nil)
        (pss_one (ps_if (pt_not (pt_val (pe_callB (cr_all rfl) (by rfl) G.all (by decide +kernel) (pa_cons
            (pe_lc (own := [("at", 3)]) (g := gName 3) (tt := tYes) rfl scRows.nd (pi_range1 (by rfl) G.range (pa_cons (pe_callB (len_K (K := K) rfl) (by rfl) G.len PySem.boot_len (pa_cons (pv 1) pa_nil)) pa_nil))
              (blkOk_by (N := ["value", "bounds", "row", "at"]) (sc := defScope (top 9)) (by decide +kernel)) (fun _ _ _ _ _ => pg_name (i := 3) scRows.nd rfl (Or.inl rfl)) (fun _ _ _ _ _ => pts_nil)
              (fun _ _ _ _ _ => pe_call GN hr (by rfl) gN FN.kp bN .nil pass0 (pa_cons (pe_ix (ixT_K (K := K) rfl) (pv 2) (pv 3) (fun _ _ => rfl)) (pa_cons (pe_ix (ixT_K (K := K) rfl) (pv 1) (pv 3) (fun _ _ => rfl)) pa_nil)))) pa_nil)))) pss_never pss_nil))))
      (pss_one (ps_ret (pe_callB (cr_all rfl) (by rfl) G.all (by decide +kernel) (pa_cons
            (pe_lc (own := [("at", 3)]) (g := gName 3) (tt := tYes) rfl scRows.nd (pi_range1 (by rfl) G.range (pa_cons (pe_op op_sub (pe_callB (len_K (K := K) rfl) (by rfl) G.len PySem.boot_len (pa_cons (pv 0) pa_nil)) pe_int) pa_nil))
              (blkOk_by (N := ["value", "bounds", "row", "at"]) (sc := defScope (top 9)) (by decide +kernel)) (fun _ _ _ _ _ => pg_name (i := 3) scRows.nd rfl (Or.inl rfl)) (fun _ _ _ _ _ => pts_nil)
              (fun _ _ _ _ _ => pe_cmpR (ltT_K (K := K) rfl (by show A.units + 3 < cLine; have : (A.deeper (envOfC "are_rows" (defScope (top 9)) s.heap.objs.size f cdv)).units = A.units + 3 := rfl; omega)) (pe_ix (ixT_K (K := K) rfl) (pv 0) (pv 3) (fun _ _ => rfl)) (pe_ix (ixT_K (K := K) rfl) (pv 0) (pe_op op_add (pv 3) pe_int) (fun _ _ => rfl)) (nomark _))) pa_nil))))), ?_⟩
    obtain ⟨as, hv, hrows⟩ := id hT
    have hlen : as.length = rows.length := Paired.length hrows
    refine ⟨_, rfl, _, _, .type "tuple", .type "tuple", true, rfl, .ty _, .base (.tup hv), kit_ty (by decide +kernel), true, rfl, iteF ?_⟩
    -- for row in value
    refine ⟨_, rfl, a, rfl, ⟨_, SqT.of hv⟩, for_tup (K := K) (a := a) (xs := as.map V.ref) (fun i σ H' => Same H H' ∧ ∃ v, σ = [some (.ref a), some (.ref b), v, none])
      ⟨Same.refl H, none, rfl⟩ (fun i σ H' _ p => SqT.of (p.1 _ _ hv)) ?_ ?_⟩
    · rintro i x σ H' hx ⟨s1, v, rfl⟩
      obtain ⟨hi, _⟩ := List.getElem?_eq_some_iff.mp hx
      rw [List.length_map] at hi
      obtain ⟨c, r, e1, e2, e3⟩ := paired_at hrows i (by omega)
      rw [List.getElem?_map, e1] at hx
      obtain rfl : V.ref c = x := Option.some.inj hx
      obtain ⟨hrl, hrv⟩ := hin r (List.mem_of_getElem? e2)
      have e4 : H' c = some (.tup (r.map V.int)) := s1 _ _ e3
      have e5 : H' b = some (.tup (bs.map V.int)) := s1 _ _ hB
      refine ⟨_, rfl, _, _, .type "tuple", .type "tuple", true, rfl, .ty _, .base (.tup e4), kit_ty (by decide +kernel), true, rfl, iteF ?_⟩
      refine ⟨_, rfl, c, _, rfl, .inr (SqT.of e4), _, rfl, b, _, rfl, .inr (SqT.of e5), rfl, _, rfl, ?_⟩
      rw [List.length_map, List.length_map, hrl]
      refine iteNS rfl ?_
      -- all([is_number(row[at], bounds[at]) for at in range(len(bounds))])
      refine ⟨_, rfl, b, _, rfl, .inr (SqT.of e5), _, rfl, by rw [List.length_map]; omega, by rw [List.length_map]; omega, fun D hD => ?_⟩
      rw [List.length_map, Int.toNat_natCast]
      refine lc_range (lo := 0) (n := bs.length) (fun i H2 => Same H' H2 ∧ H2 D = some (.lst (List.replicate i (V.bl true)))) ⟨Same.new hD, upd_same⟩ ?_ ?_
      · rintro j H2 hj ⟨s2, d2⟩
        obtain ⟨v, n, g1, g2, g3, g4⟩ := hrv j hj
        refine ⟨rfl, yesT ?_⟩
        refine ⟨_, rfl, _, rfl, c, _, _, _, rfl, rfl, SqT.of (s2 _ _ e4), at_n (map_int g1), _, rfl, _, rfl, b, _, _, _, rfl, rfl, SqT.of (s2 _ _ e5), at_n (map_int g2), v, n, rfl, g3, g4, _, d2, szlt (by rw [List.length_replicate]; omega), Same.mut s2 hD, ?_⟩
        rw [upd_same, rep_snoc]
      · rintro H2 ⟨s2, d2⟩
        refine ⟨D, _, rfl, sql_rep d2, _, rfl, ?_⟩
        rw [rep_all]
        exact iteF ⟨fun b o e => s2 b o (s1 b o e), _, rfl⟩
    · rintro σ H' ⟨s1, v, rfl⟩
      have e4 : H' a = some (.tup (as.map V.ref)) := s1 _ _ hv
      refine ⟨_, rfl, a, _, rfl, .inr (SqT.of e4), _, _, rfl, rfl, _, rfl, by rw [List.length_map]; omega, by rw [List.length_map]; omega, fun D hD => ?_⟩
      rw [List.length_map, hlen]
      refine lc_range (lo := 0) (n := ((rows.length : Int) - 1).toNat) (fun i H2 => Same H' H2 ∧ H2 D = some (.lst (List.replicate i (V.bl true)))) ⟨Same.new hD, upd_same⟩ ?_ ?_
      · rintro j H2 hj ⟨s2, d2⟩
        obtain ⟨c1, r1, e1, e2, e3⟩ := paired_at hrows j (by omega)
        obtain ⟨c2, r2, g1, g2, g3⟩ := paired_at hrows (j + 1) (by omega)
        have lt : HT.lexLt r1 r2 = true := by
          have h1 := List.getElem?_eq_some_iff.mp e2
          have h2 := List.getElem?_eq_some_iff.mp g2
          obtain ⟨h3, h4⟩ := h1
          obtain ⟨h5, h6⟩ := h2
          have := List.pairwise_iff_getElem.mp hasc j (j + 1) h3 h5 (Nat.lt_succ_self j)
          rw [h4, h6] at this
          exact this
        have e6 : H2 a = some (.tup (as.map V.ref)) := s2 _ _ e4
        refine ⟨rfl, yesT ?_⟩
        refine ⟨_, rfl, _, rfl, a, _, _, _, rfl, rfl, SqT.of e6, at_n (i := j) (v := .ref c1) (by rw [List.getElem?_map, e1]; rfl), _, rfl, _, rfl, _, _, rfl, rfl, a, _, _, .ref c2, rfl, rfl, SqT.of e6, ?_, c1, c2, r1, r2, rfl, rfl, SqT.of (s2 _ _ (s1 _ _ e3)), SqT.of (s2 _ _ (s1 _ _ g3)), _, d2, szlt (by rw [List.length_replicate]; omega), Same.mut s2 hD, ?_⟩
        · refine at_of (j := j + 1) (by omega) ?_
          rw [List.getElem?_map, g1]
          rfl
        · rw [upd_same, lt, rep_snoc]
      · rintro H2 ⟨s2, d2⟩
        refine ⟨D, _, rfl, sql_rep d2, ?_⟩
        rw [rep_all]
        exact q H2 fun b o e => s2 b o (s1 b o e)
end
end Tac
namespace Tac
open PySem PySem.Spec PyProof.Rows L2 TacR
section
variable {P : Program} {w : World} {K : PySem.W.Frag} {mg : Str → Option Value} {base : Heap}
/-! ### a closed set as it lies in the heap -/
def edL (p : Ed) : List Int := [p.1, p.2]
def elL (x : El) : List Int := [x.1, x.2.1, x.2.2.1, x.2.2.2]
theorem edL_inj {p q : Ed} (h : edL p = edL q) : p = q := by
  obtain ⟨a, b⟩ := p
  obtain ⟨c, d⟩ := q
  simp only [edL, List.cons.injEq, and_true] at h
  rw [h.1, h.2]
theorem elL_inj {x y : El} (h : elL x = elL y) : x = y := by
  obtain ⟨a, b, c, d⟩ := x
  obtain ⟨e, f, g, i⟩ := y
  simp only [elL, List.cons.injEq, and_true] at h
  obtain ⟨h1, h2, h3, h4⟩ := h
  rw [h1, h2, h3, h4]
structure Good (A : Bool → AutT) (m : MchT) (ns k : Nat) (E : Bool → List Ed) (M : List El) : Prop where
  right : Right A m ns k E M
  ascE : ∀ b, Asc ((E b).map edL)
  ascM : Asc (M.map elL)
  lenE : ∀ b, (E b).length ≤ 3000
  lenM : M.length ≤ 3000
/-- the tuple of five at v -/
structure CSet (H : Hp) (v l r e0 e1 me : Addr) (A : Bool → AutT) (E : Bool → List Ed) (M : List El) : Prop where
  tup : H v = some (.tup [.ref l, .ref r, .ref e0, .ref e1, .ref me])
  l : T2 H l (A false)
  r : T2 H r (A true)
  e0 : T2 H e0 ((E false).map edL)
  e1 : T2 H e1 ((E true).map edL)
  me : T2 H me (M.map elL)
theorem CSet.keep {H H' : Hp} {v l r e0 e1 me : Addr} {A : Bool → AutT} {E : Bool → List Ed} {M : List El} (t : TX H H') (c : CSet H v l r e0 e1 me A E M) : CSet H' v l r e0 e1 me A E M :=
  ⟨t _ _ c.tup, c.l.keep t, c.r.keep t, c.e0.keep t, c.e1.keep t, c.me.keep t⟩
theorem Good.inE {A : Bool → AutT} {m : MchT} {ns k : Nat} {E : Bool → List Ed} {M : List El} (g : Good A m ns k E M) (b : Bool) : ∀ r ∈ (E b).map edL, InB [((A b).length : Int), (k : Int)] r := by
  intro r hr
  obtain ⟨p, hp, rfl⟩ := List.mem_map.mp hr
  obtain ⟨⟨h1, h2⟩, h3, h4⟩ := g.right.eR b p hp
  refine ⟨rfl, fun i hi => ?_⟩
  match i, hi with
  | 0, _ => exact ⟨_, _, rfl, rfl, h1, h2⟩
  | 1, _ => exact ⟨_, _, rfl, rfl, h3, h4⟩
  | i + 2, hi => exact absurd hi (by simp)
theorem Good.inM {A : Bool → AutT} {m : MchT} {ns k : Nat} {E : Bool → List Ed} {M : List El} (g : Good A m ns k E M) : ∀ r ∈ M.map elL, InB [((A false).length : Int), (ns : Int), (k : Int), ((A true).length : Int)] r := by
  intro r hr
  obtain ⟨x, hx, rfl⟩ := List.mem_map.mp hr
  obtain ⟨⟨h1, h2⟩, ⟨h3, h4⟩, ⟨h5, h6⟩, h7, h8⟩ := g.right.mR x hx
  refine ⟨rfl, fun i hi => ?_⟩
  match i, hi with
  | 0, _ => exact ⟨_, _, rfl, rfl, h1, h2⟩
  | 1, _ => exact ⟨_, _, rfl, rfl, h3, h4⟩
  | 2, _ => exact ⟨_, _, rfl, rfl, h5, h6⟩
  | 3, _ => exact ⟨_, _, rfl, rfl, h7, h8⟩
  | i + 4, hi => exact absurd hi (by simp)
/-! ### has_form -/
def spForm : Sp := fun vs H Q _ => ∃ (a v l r e0 e1 me : Addr) (m : MchT) (ns k : Nat) (A : Bool → AutT) (E : Bool → List Ed) (M : List El), vs = [.ref a, .ref v] ∧ TM H a m ∧ CSet H v l r e0 e1 me A E M ∧ Good A m ns k E M ∧ ∀ H', Same H H' → Q (.bl true) H'
theorem scForm : FnScope ["machine", "value", "symbols", "left", "right", "left_edges", "right_edges", "members"] ["machine", "value"] (defScope (top 10)) := ⟨rfl, rfl, rfl, by decide +kernel, rfl, by decide +kernel, by decide +kernel⟩
theorem ok_form {f fN fA fR : Addr} {fd fdN fdA fdR : FuncData} (F : FnP K "has_form" "has_form" (top 10) f fd) (G : Gx mg) (FN : FnP K "is_number" "is_number" (top 7) fN fdN) (gN : mg "is_number" = some (.ref fN))
    (FA : FnP K "is_automaton" "is_automaton" (top 8) fA fdA) (gA : mg "is_automaton" = some (.ref fA)) (FR : FnP K "are_rows" "are_rows" (top 9) fR fdR) (gR : mg "are_rows" = some (.ref fR)) : FnOk P w K mg base CX0 3 f fd ["machine", "value"] spForm := by
  have GA : FnOk P w K mg base CX0 2 fA fdA ["value", "symbols"] spAut := ok_aut FA G FN gN
  have GR : FnOk P w K mg base CX0 2 fR fdR ["value", "bounds"] spRows := ok_rows FR G FN gN
  have bA : Binds K fdA ["value", "symbols"] [] := FA.bindsN fun _ _ _ _ _ _ us hl => match us, hl with | [_, _], _ => rfl
  have bR : Binds K fdR ["value", "bounds"] [] := FR.bindsN fun _ _ _ _ _ _ us hl => match us, hl with | [_, _], _ => rfl
  obtain ⟨tE, hE⟩ := G.elems
  refine F.ok scForm (fun vs H Q E h => ?_) (fun cdv A' outer s H vs Q E' hr h => ?_)
  · obtain ⟨a, v, l, r, e0, e1, me, m, ns, k, A, E, M, rfl, _⟩ := h
    rfl
  · obtain ⟨a, v, l, r, e0, e1, me, m, ns, k, A, E, M, rfl, hM, c, g, q⟩ := h
    have R := g.right
    refine ⟨_, pss_cons (ps_set (i := 2) scForm.nd rfl (Or.inl rfl) (pe_callB (len_K (K := K) rfl) (by rfl) G.len PySem.boot_len (pa_cons (pe_ix (ixT_K (K := K) rfl) (pv 0) pe_int (fun _ _ => rfl)) pa_nil)))
      (pss_cons (ps_if (PW.pt (pw_or (pt_not (pt_val (pe_callB (isi_K (K := K) rfl) (by rfl) G.isi boot_isinstance (pa_cons (pv 1) (pa_cons (pe_bltn (v := .ty "tuple") (by rfl) G.tuple (by decide +kernel) rfl) pa_nil)))))
          (pw_or1 (pt_cmpR op_ne (pe_callB (len_K (K := K) rfl) (by rfl) G.len PySem.boot_len (pa_cons (pv 1) pa_nil)) pe_int (nomark _))))) pss_never pss_nil)
      (pss_cons (ps_asg (pv 1) (pg_tup rfl (pgs_cons (pg_name (i := 3) scForm.nd rfl (Or.inl rfl)) (pgs_cons (pg_name (i := 4) scForm.nd rfl (Or.inl rfl)) (pgs_cons (pg_name (i := 5) scForm.nd rfl (Or.inl rfl)) (pgs_cons (pg_name (i := 6) scForm.nd rfl (Or.inl rfl)) (pgs_cons (pg_name (i := 7) scForm.nd rfl (Or.inl rfl)) pgs_nil)))))))
      (pss_cons (ps_if (PW.pt (pw_or (pt_not (pt_val (pe_call GA hr (by rfl) gA FA.kp bA .nil pass0 (pa_cons (pv 3) (pa_cons (pv 2) pa_nil))))) (pw_or1 (pt_not (pt_val (pe_call GA hr (by rfl) gA FA.kp bA .nil pass0 (pa_cons (pv 4) (pa_cons (pv 2) pa_nil)))))))) pss_never pss_nil)
      (pss_cons (ps_if (PW.pt (pw_or (pt_not (pt_val (pe_call GR hr (by rfl) gR FR.kp bR .nil pass0 (pa_cons (pv 5) (pa_cons (pe_tup (pa_cons (pe_callB (len_K (K := K) rfl) (by rfl) G.len PySem.boot_len (pa_cons (pv 3) pa_nil)) (pa_cons (pv 2) pa_nil))) pa_nil)))))
          (pw_or1 (pt_not (pt_val (pe_call GR hr (by rfl) gR FR.kp bR .nil pass0 (pa_cons (pv 6) (pa_cons (pe_tup (pa_cons (pe_callB (len_K (K := K) rfl) (by rfl) G.len PySem.boot_len (pa_cons (pv 4) pa_nil)) (pa_cons (pv 2) pa_nil))) pa_nil)))))))) pss_never pss_nil)
      (pss_one (ps_ret (pe_and (pe_call GR hr (by rfl) gR FR.kp bR .nil pass0 (pa_cons (pv 7) (pa_cons (pe_tup (pa_cons (pe_callB (len_K (K := K) rfl) (by rfl) G.len PySem.boot_len (pa_cons (pv 3) pa_nil)) (pa_cons (pe_callB (len_K (K := K) rfl) (by rfl) G.len PySem.boot_len (pa_cons (pv 0) pa_nil)) (pa_cons (pv 2) (pa_cons (pe_callB (len_K (K := K) rfl) (by rfl) G.len PySem.boot_len (pa_cons (pv 4) pa_nil)) pa_nil))))) pa_nil)))
        (pe_one (pe_cmpR op_le (pe_callB (len_K (K := K) rfl) (by rfl) G.len PySem.boot_len (pa_cons (pv 7) pa_nil)) (pe_glob (v := .int 3000) rfl hE ⟨_, rfl⟩) (nomark _))))))))))
      , ?_⟩
    obtain ⟨b0, xs0, ys0, m1, m2, m3, m4⟩ := hM.row0 R.mch
    refine ⟨_, rfl, a, _, _, _, rfl, rfl, SqT.of m1, m2, b0, _, rfl, .inr (SqT.of m3), ?_⟩
    rw [m4]
    refine ⟨_, rfl, _, _, .type "tuple", .type "tuple", true, rfl, .ty _, .base (.tup c.tup), kit_ty (by decide +kernel), true, rfl, iteF ?_⟩
    refine ⟨_, rfl, v, _, rfl, .inr (SqT.of c.tup), rfl, _, rfl, iteNS rfl ?_⟩
    refine ⟨_, rfl, v, _, rfl, SqT.of c.tup, rfl, _, _, rfl, _, _, rfl, _, _, rfl, _, _, rfl, _, _, rfl, rfl, ?_⟩
    -- is_automaton
    have hk := R.mch.kLo
    have hk4 := R.mch.kHi
    refine ⟨_, rfl, _, rfl, l, A false, k, rfl, c.l, R.aut false, by omega, hk4, fun H1 s1 => ⟨_, rfl, iteF ?_⟩⟩
    refine ⟨_, rfl, _, rfl, r, A true, k, rfl, c.r.keep (TX.same s1), R.aut true, by omega, hk4, fun H2 s2 => ⟨_, rfl, iteF ?_⟩⟩
    have c2 := c.keep (TX.same (s1.trans s2))
    -- are_rows
    obtain ⟨xl, l1, l2⟩ := c2.l.len
    obtain ⟨xr, r1, r2⟩ := c2.r.len
    refine ⟨_, rfl, _, rfl, l, _, rfl, .inr (SqT.of l1), _, rfl, sz1000 (by show 2 ≤ 100000; decide), fun p1 n1 => ?_⟩
    rw [l2]
    refine ⟨e0, p1, _, [((A false).length : Int), (k : Int)], rfl, c2.e0.keep (TX.new n1), upd_same, g.inE false, g.ascE false, by rw [List.length_map]; exact g.lenE false, by show 2 ≤ 4; decide, fun H3 s3 => ⟨_, rfl, iteF ?_⟩⟩
    have t3 : TX H2 H3 := (TX.new n1).trans (TX.same s3)
    refine ⟨_, rfl, _, rfl, r, _, rfl, .inr (SqT.of (t3 _ _ r1)), _, rfl, sz1000 (by show 2 ≤ 100000; decide), fun p2 n2 => ?_⟩
    rw [r2]
    refine ⟨e1, p2, _, [((A true).length : Int), (k : Int)], rfl, (c2.e1.keep t3).keep (TX.new n2), upd_same, g.inE true, g.ascE true, by rw [List.length_map]; exact g.lenE true, by show 2 ≤ 4; decide, fun H4 s4 => ⟨_, rfl, iteF ?_⟩⟩
    have t4 : TX H2 H4 := t3.trans ((TX.new n2).trans (TX.same s4))
    obtain ⟨xm, mm1, mm2⟩ := (hM.keep ((TX.same (s1.trans s2)).trans t4)).len
    refine ⟨_, rfl, _, rfl, l, _, rfl, .inr (SqT.of (t4 _ _ l1)), _, rfl, a, _, rfl, .inr (SqT.of mm1), _, rfl, _, rfl, r, _, rfl, .inr (SqT.of (t4 _ _ r1)), sz1000 (by show 4 ≤ 100000; decide), fun p3 n3 => ?_⟩
    rw [l2, mm2, r2, R.mch.len]
    refine ⟨me, p3, _, [((A false).length : Int), (ns : Int), (k : Int), ((A true).length : Int)], rfl, (c2.me.keep t4).keep (TX.new n3), upd_same, g.inM, g.ascM, by rw [List.length_map]; exact g.lenM, by show 4 ≤ 4; decide, fun H5 s5 => ⟨_, rfl, iteT ?_⟩⟩
    have t5 : TX H2 H5 := t4.trans ((TX.new n3).trans (TX.same s5))
    obtain ⟨xe, q1, q2⟩ := (c2.me.keep t5).len
    refine ⟨_, rfl, me, _, rfl, .inr (SqT.of q1), _, _, rfl, rfl, ?_⟩
    have l3 := g.lenM
    rw [q2, List.length_map]
    show Q (.bl (decide ((M.length : Int) ≤ 3000))) H5
    rw [decide_eq_true (show (M.length : Int) ≤ 3000 by omega)]
    refine q H5 ?_
    exact (s1.trans s2).trans (((Same.new n1).trans s3).trans (((Same.new n2).trans s4).trans ((Same.new n3).trans s5)))
end
end Tac
namespace Tac
open PySem PySem.Spec PyProof.Rows L2 TacR
section
variable {P : Program} {w : World} {K : PySem.W.Frag} {mg : Str → Option Value} {base : Heap}
/-! ### a dict from rows to lists (or dicts) of pairs -/
structure DKs (kvs : List (Key × V)) (n : Nat) : Prop where
  nd : (kvs.map (·.1)).Nodup
  rg : ∀ kv ∈ kvs, ∃ t, kv.1 = Sum.inl t ∧ Lt n t
theorem DKs.nil (n : Nat) : DKs [] n := ⟨List.nodup_nil, fun _ h => by cases h⟩
theorem DKs.len {kvs : List (Key × V)} {n : Nat} (h : DKs kvs n) : kvs.length ≤ n := by
  have h2 := pigeon (l := kvs.map (·.1)) (n := n) (fun k => match k with | Sum.inl t => t.toNat | Sum.inr _ => 0) h.nd (fun a ha b hb e => by
    obtain ⟨kv, hkv, rfl⟩ := List.mem_map.mp ha
    obtain ⟨kw, hkw, rfl⟩ := List.mem_map.mp hb
    obtain ⟨t, e1, h1, h2⟩ := h.rg kv hkv
    obtain ⟨u, e2, h3, h4⟩ := h.rg kw hkw
    rw [e1, e2] at e ⊢
    have e : t.toNat = u.toNat := e
    have : t = u := by omega
    rw [this]) fun a ha => by
      obtain ⟨kv, hkv, rfl⟩ := List.mem_map.mp ha
      obtain ⟨t, e1, h1, h2⟩ := h.rg kv hkv
      rw [e1]
      show t.toNat < n
      omega
  rwa [List.length_map] at h2
theorem DKs.put {kvs : List (Key × V)} {n : Nat} {t : Int} (h : DKs kvs n) (ht : Lt n t) (hv : valV kvs (Sum.inl t : Key) = none) (v : V) : DKs (putK kvs (Sum.inl t : Key) v) n := by
  refine ⟨nd_putK v h.nd hv, fun kv hkv => ?_⟩
  rw [putK_new v hv] at hkv
  rcases List.mem_append.mp hkv with q | q
  · exact h.rg kv q
  · have : kv = (Sum.inl t, v) := by simpa using q
    rw [this]
    exact ⟨t, rfl, ht⟩
/-- a list of pairs; a dict whose keys are pairs -/
def CL (H : Hp) (a : Addr) (l : List Ed) : Prop := ∃ as, H a = some (.lst (as.map V.ref)) ∧ Paired (TN H) as (l.map edL)
def dE (l : List Ed) : List (List Key × V) := l.map fun e => (kI (edL e), V.bl true)
def CD (H : Hp) (a : Addr) (l : List Ed) : Prop := H a = some (.dT (dE l))
structure CKeep (C : Hp → Addr → List Ed → Prop) (o0 : HO) : Prop where
  keep : ∀ {H H' : Hp} {a : Addr} {l : List Ed}, C H a l → H' a = H a → TX H H' → C H' a l
  ne : ∀ {H : Hp} {a d : Addr} {l : List Ed} {kvs : List (Key × V)}, C H a l → H d = some (.dK kvs) → a ≠ d
  old : ∀ {H : Hp} {a : Addr} {l : List Ed}, C H a l → ∃ o, H a = some o ∧ ∀ xs, o ≠ .tup xs
  nil : ∀ {H : Hp} {z : Addr}, H z = some o0 → C H z []
theorem keepCL : CKeep CL (.lst []) where
  keep := fun {H H' a l} h e t => by
    obtain ⟨as, h1, h2⟩ := h
    exact ⟨as, by rw [e]; exact h1, Paired.mono (fun b ns q => TN.keep t q) h2⟩
  ne := fun {H a d l kvs} h e => by
    obtain ⟨as, h1, _⟩ := h
    exact ne_of h1 e (by intro z; cases z)
  old := fun {H a l} h => by
    obtain ⟨as, h1, _⟩ := h
    exact ⟨_, h1, by intro xs z; cases z⟩
  nil := fun {H z} h => ⟨[], h, .nil⟩
theorem keepCD : CKeep CD (.dT []) where
  keep := fun {H H' a l} h e t => by
    show H' a = _
    rw [e]
    exact h
  ne := fun {H a d l kvs} h e => ne_of h e (by intro z; cases z)
  old := fun {H a l} h => ⟨_, h, by intro xs z; cases z⟩
  nil := fun {H z} h => h
structure MapAt (C : Hp → Addr → List Ed → Prop) (H : Hp) (d : Addr) (n : Nat) (f : Int → List Ed) (ad : Int → Option Addr) : Prop where
  kvs : ∃ kvs, H d = some (.dK kvs) ∧ DKs kvs n ∧ ∀ t, valV kvs (Sum.inl t : Key) = (ad t).map V.ref
  non : ∀ t, ad t = none → f t = []
  som : ∀ t a, ad t = some a → C H a (f t)
  inj : ∀ t u a, ad t = some a → ad u = some a → t = u
section
variable {C : Hp → Addr → List Ed → Prop} {o0 : HO} {H H' : Hp} {d : Addr} {n : Nat} {f : Int → List Ed} {ad : Int → Option Addr} {t : Int}
theorem MapAt.keep (ck : CKeep C o0) (M : MapAt C H d n f ad) (k : ∀ b o, (b = d ∨ ∃ t, ad t = some b) → H b = some o → H' b = some o) (tx : TX H H') : MapAt C H' d n f ad := by
  obtain ⟨kvs, h1, h2, h3⟩ := M.kvs
  refine ⟨⟨kvs, k d _ (.inl rfl) h1, h2, h3⟩, M.non, fun t a e => ?_, M.inj⟩
  have c := M.som t a e
  obtain ⟨o, ho, _⟩ := ck.old c
  exact ck.keep c (by rw [k a o (.inr ⟨t, e⟩) ho, ho]) tx
theorem MapAt.same (ck : CKeep C o0) (M : MapAt C H d n f ad) (s : Same H H') : MapAt C H' d n f ad := M.keep ck (fun b o _ h => s b o h) (TX.same s)
theorem MapAt.init {C : Hp → Addr → List Ed → Prop} (h : H d = some (.dK [])) : MapAt C H d n (fun _ => []) fun _ => none :=
  ⟨⟨[], h, DKs.nil n, fun _ => rfl⟩, fun _ _ => rfl, (fun _ _ e => nomatch e), (fun _ _ _ e => nomatch e)⟩
theorem MapAt.look (M : MapAt C H d n f ad) : ∃ kvs, H d = some (.dK kvs) ∧ valV kvs (Sum.inl t : Key) = (ad t).map V.ref := by
  obtain ⟨kvs, h1, _, h3⟩ := M.kvs
  exact ⟨kvs, h1, h3 t⟩
/-- setdefault(t, a new one) -/
theorem MapAt.setd (ck : CKeep C o0) (h0 : ∀ xs, o0 ≠ .tup xs) (M : MapAt C H d n f ad) (ht : Lt n t) (hn : n ≤ 1000) {z : Addr} (hz : H z = none) {R : V → Hp → Prop}
    (k : ∀ b H' ad', MapAt C H' d n f ad' → ad' t = some b → (∀ c o, H c = some o → c ≠ d → H' c = some o) → (∀ u c, ad' u = some c → ad u = some c ∨ (u = t ∧ H c = none)) → (∀ u c, ad u = some c → ad' u = some c) → R (.ref b) H') :
    ∃ (kvs : List (Key × V)) (ky : Key), upd H z o0 d = some (.dK kvs) ∧ V.int t = kV ky ∧ kvs.length < sizeLine ∧ (∀ v, valV kvs ky = some v → R v (upd H z o0)) ∧ (valV kvs ky = none → R (.ref z) (upd (upd H z o0) d (.dK (putK kvs ky (.ref z))))) := by
  obtain ⟨kvs, h1, h2, h3⟩ := M.kvs
  have dz : d ≠ z := ne_of_none h1 hz
  have l := h2.len
  refine ⟨kvs, Sum.inl t, by rw [upd_ne dz]; exact h1, rfl, szlt (by omega), fun v hv => ?_, fun hv => ?_⟩
  · rw [h3 t] at hv
    cases e : ad t with
    | none => rw [e] at hv; cases hv
    | some b =>
      rw [e] at hv
      obtain rfl : V.ref b = v := Option.some.inj hv
      exact k b _ ad (M.same ck (Same.new hz)) e (fun c o h _ => Same.new hz c o h) (fun u c h => .inl h) fun u c h => h
  · have e : ad t = none := by
      have := h3 t
      rw [hv] at this
      cases e : ad t with
      | none => rfl
      | some b => rw [e] at this; cases this
    have M1 := M.same ck (H' := upd H z o0) (Same.new hz)
    have hd1 : upd H z o0 d = some (.dK kvs) := by rw [upd_ne dz]; exact h1
    have tx : TX (upd H z o0) (upd (upd H z o0) d (.dK (putK kvs (Sum.inl t) (.ref z)))) := TX.mut hd1 (by intro xs z; cases z)
    have nz : ∀ u a, ad u = some a → a ≠ z := fun u a h => by
      obtain ⟨o, ho, _⟩ := ck.old (M.som u a h)
      exact ne_of_none ho hz
    refine k z _ (fun u => if u = t then some z else ad u) ⟨⟨_, upd_same, h2.put ht hv _, fun u => ?_⟩, fun u hu => ?_, fun u a hu => ?_, fun u w a hu hw => ?_⟩ (if_pos rfl) (fun c o h hc => ?_) (fun u c hu => ?_) fun u c hu => ?_
    · rw [valV_put]
      by_cases hu : u = t
      · rw [if_pos (by rw [hu]), if_pos hu]
        rfl
      · rw [if_neg (fun q => hu (Sum.inl.inj q)), if_neg hu]
        exact h3 u
    · by_cases q : u = t
      · have hu : (if u = t then some z else ad u) = none := hu
        rw [if_pos q] at hu
        cases hu
      · have hu : (if u = t then some z else ad u) = none := hu
        rw [if_neg q] at hu
        exact M.non u hu
    · have hu : (if u = t then some z else ad u) = some a := hu
      by_cases q : u = t
      · rw [if_pos q] at hu
        cases hu
        rw [q, M.non t e]
        exact ck.nil (by rw [upd_ne dz.symm, upd_same])
      · rw [if_neg q] at hu
        have c := M1.som u a hu
        exact ck.keep c (by rw [upd_ne (ck.ne c hd1)]) tx
    · have hu : (if u = t then some z else ad u) = some a := hu
      have hw : (if w = t then some z else ad w) = some a := hw
      by_cases q : u = t
      · rw [if_pos q] at hu
        cases hu
        by_cases q2 : w = t
        · rw [q, q2]
        · rw [if_neg q2] at hw
          exact absurd rfl (nz w z hw)
      · rw [if_neg q] at hu
        by_cases q2 : w = t
        · rw [if_pos q2] at hw
          cases hw
          exact absurd rfl (nz u z hu)
        · rw [if_neg q2] at hw
          exact M.inj u w a hu hw
    · rw [upd_ne hc, upd_ne (ne_of_none h hz)]
      exact h
    · have hu : (if u = t then some z else ad u) = some c := hu
      by_cases q : u = t
      · rw [if_pos q] at hu
        cases hu
        exact .inr ⟨q, hz⟩
      · rw [if_neg q] at hu
        exact .inl hu
    · have q : u ≠ t := fun q => by rw [q, e] at hu; cases hu
      show (if u = t then some z else ad u) = some c
      rw [if_neg q]
      exact hu
theorem paired_snoc {α β : Type} {F : α → β → Prop} {a : α} {b : β} {l : List α} {m : List β} (h : Paired F l m) (q : F a b) : Paired F (l ++ [a]) (m ++ [b]) := Paired.snoc h q
/-- an edge is appended to a list of the dict -/
theorem MapAt.app (M : MapAt CL H d n f ad) {b p : Addr} {e : Ed} (hb : ad t = some b) (hp : TN H p (edL e)) :
    ∃ xs, H b = some (.lst xs) ∧ xs.length = (f t).length ∧ MapAt CL (upd H b (.lst (xs ++ [.ref p]))) d n (upt f t (f t ++ [e])) ad := by
  obtain ⟨as, h1, h2⟩ := M.som t b hb
  obtain ⟨kvs, k1, k2, k3⟩ := M.kvs
  have tx : TX H (upd H b (.lst (as.map V.ref ++ [.ref p]))) := TX.mut h1 (by intro xs z; cases z)
  refine ⟨_, h1, by rw [List.length_map, Paired.length h2, List.length_map], ⟨kvs, by rw [upd_ne (ne_of k1 h1 (by intro z; cases z))]; exact k1, k2, k3⟩, fun u hu => ?_, fun u a hu => ?_, M.inj⟩
  · have q : u ≠ t := fun q => by rw [q, hb] at hu; cases hu
    rw [upt_ne q]
    exact M.non u hu
  · by_cases q : u = t
    · subst q
      rw [hb] at hu
      cases hu
      rw [upt_same]
      refine ⟨as ++ [p], by rw [upd_same, List.map_append]; rfl, ?_⟩
      rw [List.map_append]
      exact paired_snoc (Paired.mono (fun b ns q => TN.keep tx q) h2) (TN.keep tx hp)
    · rw [upt_ne q]
      have c := M.som u a hu
      exact keepCL.keep c (upd_ne fun z => q (M.inj u t b (by rw [z] at hu; exact hu) hb)) tx
/-- d.setdefault(t, x), not to be opened unasked -/
@[irreducible] def tSetd (td ty tx : TE) : TE := tDSetd td ty tx
theorem pe_setd {X : Cx} {o e f : Expr} {td ty tx : TE} {apos cpos : Pos} (ho : PE X o td) (he : PE X e ty) (hf : PE X f tx) (m : M2 X o "setdefault" apos e f cpos) : PE X (.Call (.Attribute o "setdefault" apos) [e, f] [] cpos) (tSetd td ty tx) := by
  unfold tSetd
  exact pe_dsetd ho he hf m
/-- the same as a reading -/
theorem MapAt.setdR (ck : CKeep C o0) (h0 : ∀ xs, o0 ≠ .tup xs) (M : MapAt C H d n f ad) (ht : Lt n t) (hn : n ≤ 1000) {td ty tx : TE} {σ : L2.St} {Q : VK} (h1 : ∀ Q' : VK, Q' (.ref d) H → td σ H Q') (h2 : ∀ Q' : VK, Q' (.int t) H → ty σ H Q')
    (h3 : ∀ Q' : VK, (∀ z, H z = none → Q' (.ref z) (upd H z o0)) → tx σ H Q')
    (k : ∀ b H' ad', MapAt C H' d n f ad' → ad' t = some b → (∀ c o, H c = some o → c ≠ d → H' c = some o) → (∀ u c, ad' u = some c → ad u = some c ∨ (u = t ∧ H c = none)) → (∀ u c, ad u = some c → ad' u = some c) → Q (.ref b) H') : tSetd td ty tx σ H Q := by
  unfold tSetd
  obtain ⟨kvs, hk1, _⟩ := M.kvs
  refine h1 _ ⟨d, rfl, .inl ⟨kvs, .inl hk1⟩, h2 _ (h3 _ fun z hz => ?_)⟩
  exact M.setd ck h0 ht hn hz (R := Q) k
end
/-! ### edges_into -/
def into (A : AutT) (es : List Ed) (t : Int) : List Ed := es.filter fun e => decide (nx A e.1 e.2 = t)
theorem into_snoc (A : AutT) (es : List Ed) (e : Ed) : into A (es ++ [e]) = upt (into A es) (nx A e.1 e.2) (into A es (nx A e.1 e.2) ++ [e]) := by
  funext t
  unfold into
  rw [List.filter_append]
  by_cases h : t = nx A e.1 e.2
  · subst h
    rw [upt_same, List.filter_cons_of_pos (by simp)]
    rfl
  · rw [upt_ne h, List.filter_cons_of_neg (by simp; exact fun q => h q.symm)]
    simp
def spInto : Sp := fun vs H Q _ => ∃ (a e : Addr) (A : AutT) (k : Nat) (es : List Ed), vs = [.ref a, .ref e] ∧ T2 H a A ∧ Aut A k ∧ T2 H e (es.map edL) ∧ (∀ p ∈ es, Lt A.length p.1 ∧ Lt k p.2) ∧ es.length ≤ 3000 ∧
  ∀ d H' ad, H d = none → Same H H' → MapAt CL H' d A.length (into A es) ad → Q (.ref d) H'
theorem scInto : FnScope ["automaton", "edges", "found", "row", "symbol"] ["automaton", "edges"] (defScope (top 11)) := ⟨rfl, rfl, rfl, by decide +kernel, rfl, by decide +kernel, by decide +kernel⟩
theorem ok_into {f : Addr} {fd : FuncData} (F : FnP K "edges_into" "edges_into" (top 11) f fd) (G : Gx mg) : FnOk P w K mg base CX0 1 f fd ["automaton", "edges"] spInto := by
  refine F.ok scInto (fun vs H Q E h => ?_) (fun cdv A' outer s H vs Q E hr h => ?_)
  · obtain ⟨a, e, A, k, es, rfl, _⟩ := h
    rfl
  · obtain ⟨a, e, A, k, es, rfl, hT, hA, hE, hR, hl, q⟩ := h
    refine ⟨_, pss_cons (ps_set (i := 2) scInto.nd rfl (Or.inl rfl) pe_dnewK)
      (pss_cons (ps_for PassesOwn.never rfl (pi_tup (pv 1)) (pg_tup rfl (pgs_cons (pg_name (i := 3) scInto.nd rfl (Or.inl rfl)) (pgs_cons (pg_name (i := 4) scInto.nd rfl (Or.inl rfl)) pgs_nil)))
        (pss_one (ps_expr (pe_bm PySem.F.plainAttrs_list PySem.F.slot_list_append PySem.F.type_list_append mt_append
          (pe_setd (pv 2) (pe_ix (ixT_K (K := K) rfl) (pe_ix (ixT_K (K := K) rfl) (pv 0) (pv 3) (fun _ _ => rfl)) (pv 4) (fun _ _ => rfl)) (pe_lst pa_nil) ⟨rfl, rfl, rfl, rfl⟩)
          (pa_cons (pe_tup (pa_cons (pv 3) (pa_cons (pv 4) pa_nil))) pa_nil)))))
      (pss_one (ps_ret (pv 2)))), ?_⟩
    intro d hd
    obtain ⟨as, hv, hrows⟩ := id hE
    have hlen : as.length = es.length := by rw [Paired.length hrows, List.length_map]
    have sd : Same H (upd H d (.dK [])) := Same.new hd
    refine ⟨_, rfl, e, rfl, ⟨_, SqT.of (sd _ _ hv)⟩, for_tup (K := K) (a := e) (xs := as.map V.ref)
      (fun i σ H' => Same H H' ∧ (∃ ad, MapAt CL H' d A.length (into A (es.take i)) ad ∧ ∀ t b, ad t = some b → H b = none) ∧ ∃ v w, σ = [some (.ref a), some (.ref e), some (.ref d), v, w])
      ⟨sd, ⟨fun _ => none, MapAt.init upd_same, (fun _ _ e => nomatch e)⟩, none, none, rfl⟩ (fun i σ H' _ p => SqT.of (p.1 _ _ hv)) ?_ ?_⟩
    · rintro i x σ H' hx ⟨s1, ⟨ad, M, hn⟩, v, w, rfl⟩
      obtain ⟨hi, _⟩ := List.getElem?_eq_some_iff.mp hx
      rw [List.length_map] at hi
      obtain ⟨c, r, e1, e2, e3⟩ := paired_at hrows i (by rw [List.length_map]; omega)
      rw [List.getElem?_map, e1] at hx
      obtain rfl : V.ref c = x := Option.some.inj hx
      rw [List.getElem?_map] at e2
      cases ep : es[i]? with
      | none => rw [ep] at e2; cases e2
      | some p =>
        rw [ep] at e2
        obtain rfl : edL p = r := Option.some.inj e2
        obtain ⟨p1, p2⟩ := hR p (List.mem_of_getElem? ep)
        have e4 : H' c = some (.tup [.int p.1, .int p.2]) := s1 _ _ e3
        obtain ⟨b, xs, ys, g1, g2, g3, g4⟩ := (T2.keep (TX.same s1) hT).at hA p1 p2
        have ht := hA.nxR p1 p2
        have h9 := hA.le
        refine ⟨c, _, rfl, SqT.of e4, rfl, _, _, rfl, _, _, rfl, rfl, ?_⟩
        refine M.setdR keepCL (by intro xs z; cases z) ht (by omega) (fun Q' q => ⟨_, rfl, q⟩) (fun Q' q => ⟨_, rfl, _, rfl, a, xs, _, _, rfl, rfl, SqT.of g1, g2, _, rfl, b, ys, _, _, rfl, rfl, SqT.of g3, g4, q⟩) (fun Q' q => ⟨Nat.zero_le _, q⟩) fun b2 H2 ad2 M2 hb2 fr old _ => ?_
        -- append
        obtain ⟨as2, l1, l2⟩ := M2.som _ _ hb2
        refine ⟨.inl ⟨rfl, _, SqL.of l1⟩, _, rfl, _, rfl, sz1000 (by show 2 ≤ 100000; decide), fun u hu => ?_⟩
        have M3 := M2.same keepCL (Same.new (o := .tup [.int p.1, .int p.2]) hu)
        obtain ⟨xs3, m1, m2, m3⟩ := M3.app (p := u) (e := p) hb2 upd_same
        refine ⟨b2, xs3, _, rfl, rfl, m1, szlt ?_, ?_⟩
        · rw [m2]
          have := List.length_filter_le (fun e => decide (nx A e.1 e.2 = nx A p.1 p.2)) (es.take i)
          have h5 : (es.take i).length ≤ es.length := by rw [List.length_take]; omega
          show (into A (es.take i) (nx A p.1 p.2)).length < 100000
          unfold into
          omega
        · have new : ∀ t c, ad2 t = some c → H c = none := fun t c e => by
            rcases old t c e with q | ⟨_, q⟩
            · exact hn t c q
            · cases qq : H c with
              | none => rfl
              | some o => rw [s1 c o qq] at q; cases q
          have nb : H b2 = none := new _ _ hb2
          refine ⟨fun c' o ho => ?_, ⟨ad2, ?_, new⟩, _, _, rfl⟩
          · rw [upd_ne (ne_of_none ho nb)]
            have h6 : H2 c' = some o := fr c' o (s1 c' o ho) (ne_of_none ho hd)
            rw [upd_ne (ne_of_none h6 hu)]
            exact h6
          · have e6 : es.take (i + 1) = es.take i ++ [p] := by
              rw [List.take_add_one, ep]
              rfl
            rw [e6, into_snoc]
            exact m3
    · rintro σ H' ⟨s1, ⟨ad, M, hn⟩, v, w, rfl⟩
      rw [List.length_map, hlen, List.take_length] at M
      exact ⟨_, rfl, q d H' ad hd s1 M⟩
end
end Tac
namespace Tac
open PySem PySem.Spec PyProof.Rows L2 TacR
section
variable {P : Program} {w : World} {K : PySem.W.Frag} {mg : Str → Option Value} {base : Heap}
/-! ### is_right -/
/-- {x: True for x in t}, t a tuple of tuples of ints -/
theorem dcT_all {e : Addr} {rows : List (List Int)} {σ : L2.St} {H : Hp} {Q : VK} {i s : Nat} {vs : List Nat} (hi : σ[i]? = some (some (.ref e))) (hs : ∀ x, ((wipe σ vs).set s (some x))[s]? = some (some x))
    (hw : ∀ x, wipe ((wipe σ vs).set s (some x)) vs = wipe σ vs) (hT : T2 H e rows) (hl : rows.length ≤ 3000)
    (k : ∀ D kvs H', H D = none → Same H H' → H' D = some (.dT kvs) → (∀ r ∈ rows, ∃ v, valV kvs (kI r) = some v) → Q (.ref D) H') : tDcT (iTup K (tVar i)) (gName s) (tVar s) (tC (.bl true)) vs σ H Q := by
  obtain ⟨as, hv, hrows⟩ := id hT
  have hlen : as.length = rows.length := Paired.length hrows
  unfold tDcT
  refine ⟨_, hi, e, rfl, ⟨_, SqT.of hv⟩, fun D hD => dcT_tup (K := K) (a := e) (xs := as.map V.ref)
    (fun i H' => Same H H' ∧ ∃ kvs, H' D = some (.dT kvs) ∧ kvs.length ≤ i ∧ ∀ r ∈ rows.take i, ∃ v, valV kvs (kI r) = some v)
    ⟨Same.new hD, [], upd_same, Nat.le_refl _, fun r hr => by simp at hr⟩ (fun i H' _ p => SqT.of (p.1 _ _ hv)) ?_ ?_⟩
  · rintro i x H' hx ⟨s1, kvs, h1, h2, h3⟩
    obtain ⟨hi, _⟩ := List.getElem?_eq_some_iff.mp hx
    rw [List.length_map] at hi
    obtain ⟨c, r, e1, e2, e3⟩ := paired_at hrows i (by omega)
    rw [List.getElem?_map, e1] at hx
    obtain rfl : V.ref c = x := Option.some.inj hx
    refine ⟨hw _, _, hs _, kvs, c, kI r, rfl, TN.key (s1 _ _ e3), h1, szlt (by omega), Same.mut s1 hD, _, upd_same, ?_, fun r2 hr2 => ?_⟩
    · have := length_putK kvs (kI r) (V.bl true)
      omega
    · rw [valV_put]
      by_cases q : kI r2 = kI r
      · exact ⟨_, if_pos q⟩
      · rw [if_neg q]
        rw [List.take_add_one, e2] at hr2
        rcases List.mem_append.mp hr2 with z | z
        · exact h3 r2 z
        · have : r2 = r := by simpa using z
          exact absurd (by rw [this]) q
  · rintro H' ⟨s1, kvs, h1, h2, h3⟩
    rw [List.length_map, hlen, List.take_length] at h3
    exact k D kvs H' hD s1 h1 h3
/-- d.get(t, x), not to be opened unasked -/
@[irreducible] def tGet (td ty tx : TE) : TE := tDGet2 td ty tx
theorem pe_get {X : Cx} {o e f : Expr} {td ty tx : TE} {apos cpos : Pos} (hu : X.A.units + 1 < cLine) (ho : PE X o td) (he : PE X e ty) (hf : PE X f tx) (m : M2 X o "get" apos e f cpos) : PE X (.Call (.Attribute o "get" apos) [e, f] [] cpos) (tGet td ty tx) := by
  unfold tGet
  exact pe_dget2 hu ho he hf m
/-- d.get(t, []) -/
theorem MapAt.getL {H : Hp} {d : Addr} {n : Nat} {f : Int → List Ed} {ad : Int → Option Addr} {t : Int} (M : MapAt CL H d n f ad) {td ty tx : TE} {σ : L2.St} {Q : VK} (h1 : ∀ Q' : VK, Q' (.ref d) H → td σ H Q') (h2 : ∀ Q' : VK, Q' (.int t) H → ty σ H Q')
    (h3 : ∀ Q' : VK, (∀ z, H z = none → Q' (.ref z) (upd H z (.lst []))) → tx σ H Q') (k : ∀ b H', Same H H' → CL H' b (f t) → Q (.ref b) H') : tGet td ty tx σ H Q := by
  unfold tGet
  obtain ⟨kvs, hk1, hk2, hk3⟩ := M.kvs
  refine h1 _ ⟨d, rfl, .inl ⟨kvs, .inl hk1⟩, h2 _ (h3 _ fun z hz => ?_)⟩
  have s : Same H (upd H z (.lst [])) := Same.new hz
  refine ⟨_, DGet.k (k := Sum.inl t) (s _ _ hk1), ?_⟩
  rw [hk3 t]
  cases e : ad t with
  | none =>
    refine k z _ s ?_
    rw [M.non t e]
    exact ⟨[], upd_same, .nil⟩
  | some b => exact k b _ s ((M.same keepCL s).som t b e)
def spRight : Sp := fun vs H Q _ => ∃ (a v l r e0 e1 me : Addr) (m : MchT) (ns k : Nat) (A : Bool → AutT) (E : Bool → List Ed) (M : List El), vs = [.ref a, .ref v] ∧ TM H a m ∧ CSet H v l r e0 e1 me A E M ∧ Good A m ns k E M ∧ ∀ H', Same H H' → Q (.bl true) H'
abbrev nRight : List Str := ["machine", "value", "left", "right", "left_edges", "right_edges", "members", "sides", "known", "into", "l", "state", "symbol", "r", "write", "move", "following", "due", "edge", "element", "q", "y"]
theorem scRight : FnScope nRight ["machine", "value"] (defScope (top 12)) := ⟨rfl, rfl, rfl, by decide +kernel, rfl, by decide +kernel, by decide +kernel⟩
/-- a comprehension that makes tuples of ints out of the pairs of a list -/
def Made (H0 : Hp) (D : Addr) (rows : List (List Int)) (H : Hp) : Prop := Same H0 H ∧ ∃ bs, H D = some (.lst (bs.map V.ref)) ∧ Paired (TN H) bs rows
theorem Made.nil {H : Hp} {D : Addr} (h : H D = none) : Made H D [] (upd H D (.lst [])) := ⟨Same.new h, [], upd_same, .nil⟩
theorem Made.snoc {H0 H : Hp} {D p : Addr} {rows : List (List Int)} {r : List Int} (hD : H0 D = none) (m : Made H0 D rows H) (hp : H p = none) :
    ∃ acc, upd H p (.tup (r.map V.int)) D = some (.lst acc) ∧ acc.length = rows.length ∧ Made H0 D (rows ++ [r]) (upd (upd H p (.tup (r.map V.int))) D (.lst (acc ++ [.ref p]))) := by
  obtain ⟨s, bs, h1, h2⟩ := m
  have s1 : Same H (upd H p (.tup (r.map V.int))) := Same.new hp
  have h3 := s1 _ _ h1
  have tx : TX (upd H p (.tup (r.map V.int))) (upd (upd H p (.tup (r.map V.int))) D (.lst (bs.map V.ref ++ [.ref p]))) := TX.mut h3 (by intro xs z; cases z)
  refine ⟨_, h3, by rw [List.length_map, Paired.length h2], Same.mut (s.trans s1) hD, bs ++ [p], by rw [upd_same, List.map_append]; rfl, ?_⟩
  exact paired_snoc (Paired.mono (fun b ns q => TN.keep ((TX.same s1).trans tx) q) h2) (TN.keep tx (show TN (upd H p _) p r from upd_same))
theorem in_map {l : List Ed} {p : Ed} (h : p ∈ l) : edL p ∈ l.map edL := List.mem_map.mpr ⟨p, h, rfl⟩
theorem in_mapM {l : List El} {x : El} (h : x ∈ l) : elL x ∈ l.map elL := List.mem_map.mpr ⟨x, h, rfl⟩
theorem ok_right {f fF fI : Addr} {fd fdF fdI : FuncData} (F : FnP K "is_right" "is_right" (top 12) f fd) (G : Gx mg) (FF : FnP K "has_form" "has_form" (top 10) fF fdF) (gF : mg "has_form" = some (.ref fF)) (GF : FnOk P w K mg base CX0 3 fF fdF ["machine", "value"] spForm)
    (FI : FnP K "edges_into" "edges_into" (top 11) fI fdI) (gI : mg "edges_into" = some (.ref fI)) : FnOk P w K mg base CX0 4 f fd ["machine", "value"] spRight := by
  have GI : FnOk P w K mg base CX0 1 fI fdI ["automaton", "edges"] spInto := ok_into FI G
  have bF : Binds K fdF ["machine", "value"] [] := FF.bindsN fun _ _ _ _ _ _ us hl => match us, hl with | [_, _], _ => rfl
  have bI : Binds K fdI ["automaton", "edges"] [] := FI.bindsN fun _ _ _ _ _ _ us hl => match us, hl with | [_, _], _ => rfl
  obtain ⟨tS, hS⟩ := G.stop
  refine F.ok scRight (fun vs H Q E h => ?_) (fun cdv A' outer s H vs Q E' hr h => ?_)
  · obtain ⟨a, v, l, r, e0, e1, me, m, ns, k, A, E, M, rfl, _⟩ := h
    rfl
  · obtain ⟨a, v, l, r, e0, e1, me, m, ns, k, A, E, M, rfl, hM, c, g, q⟩ := h
    have R := g.right
    have hr1 : Room 1 _ := hr.mono (by decide)
    have hu0 : (A'.deeper (envOfC "is_right" (defScope (top 12)) s.heap.objs.size f cdv)).units + 65 < cLine := by have := hr.un; omega
    have hu1 : (A'.deeper (envOfC "is_right" (defScope (top 12)) s.heap.objs.size f cdv)).units + 1 < cLine := by omega
    refine ⟨_, pss_cons (ps_if (pt_not (pt_val (pe_call GF hr (by rfl) gF FF.kp bF .nil pass0 (pa_cons (pv 0) (pa_cons (pv 1) pa_nil))))) pss_never pss_nil)
      (pss_cons (ps_asg (pv 1) (pg_tup rfl (pgs_cons (pg_name (i := 2) scRight.nd rfl (Or.inr rfl)) (pgs_cons (pg_name (i := 3) scRight.nd rfl (Or.inr rfl)) (pgs_cons (pg_name (i := 4) scRight.nd rfl (Or.inl rfl)) (pgs_cons (pg_name (i := 5) scRight.nd rfl (Or.inl rfl)) (pgs_cons (pg_name (i := 6) scRight.nd rfl (Or.inl rfl)) pgs_nil)))))))
      (pss_cons (ps_if (PW.pt (pw_or (pt_cmpR (op_notInT hu0) (pe_tup (pa_cons pe_int (pa_cons pe_int pa_nil))) (pv 4) (by rfl)) (pw_or (pt_cmpR (op_notInT hu0) (pe_tup (pa_cons pe_int (pa_cons pe_int pa_nil))) (pv 5) (by rfl))
          (pw_or1 (pt_cmpR (op_notInT hu0) (pe_tup (pa_cons pe_int (pa_cons pe_int (pa_cons pe_int (pa_cons pe_int pa_nil))))) (pv 6) (by rfl)))))) pss_never pss_nil)
      (pss_cons (ps_set (i := 7) scRight.nd rfl (Or.inl rfl) (pe_lst (pa_cons
          (pe_dcT (own := [("edge", 18)]) (g := gName 18) hu1 rfl scRight.nd (pi_tup (pv 4)) (blkOk_by (N := nRight) (sc := defScope (top 12)) (by decide +kernel)) (fun _ _ _ _ _ => pg_name (i := 18) scRight.nd rfl (Or.inl rfl)) (fun _ _ _ _ _ => pv 18) (fun _ _ _ _ _ => pe_bl)) (pa_cons
          (pe_dcT (own := [("edge", 18)]) (g := gName 18) hu1 rfl scRight.nd (pi_tup (pv 5)) (blkOk_by (N := nRight) (sc := defScope (top 12)) (by decide +kernel)) (fun _ _ _ _ _ => pg_name (i := 18) scRight.nd rfl (Or.inl rfl)) (fun _ _ _ _ _ => pv 18) (fun _ _ _ _ _ => pe_bl)) pa_nil))))
      (pss_cons (ps_set (i := 8) scRight.nd rfl (Or.inr rfl)
          (pe_dcT (own := [("element", 19)]) (g := gName 19) hu1 rfl scRight.nd (pi_tup (pv 6)) (blkOk_by (N := nRight) (sc := defScope (top 12)) (by decide +kernel)) (fun _ _ _ _ _ => pg_name (i := 19) scRight.nd rfl (Or.inl rfl)) (fun _ _ _ _ _ => pv 19) (fun _ _ _ _ _ => pe_bl)))
      (pss_cons (ps_set (i := 9) scRight.nd rfl (Or.inl rfl) (pe_lst (pa_cons (pe_call GI hr1 (by rfl) gI FI.kp bI .nil pass0 (pa_cons (pv 2) (pa_cons (pv 4) pa_nil))) (pa_cons (pe_call GI hr1 (by rfl) gI FI.kp bI .nil pass0 (pa_cons (pv 3) (pa_cons (pv 5) pa_nil))) pa_nil))))
      (pss_cons (ps_for PassesOwn.never rfl (pi_tup (pv 6)) (pg_tup rfl (pgs_cons (pg_name (i := 10) scRight.nd rfl (Or.inr rfl)) (pgs_cons (pg_name (i := 11) scRight.nd rfl (Or.inl rfl)) (pgs_cons (pg_name (i := 12) scRight.nd rfl (Or.inl rfl)) (pgs_cons (pg_name (i := 13) scRight.nd rfl (Or.inr rfl)) pgs_nil)))))
        (pss_cons (ps_asg (pe_ix (ixT_K (K := K) rfl) (pe_ix (ixT_K (K := K) rfl) (pv 0) (pv 11) (fun _ _ => rfl)) (pv 12) (fun _ _ => rfl)) (pg_tup rfl (pgs_cons (pg_name (i := 14) scRight.nd rfl (Or.inr rfl)) (pgs_cons (pg_name (i := 15) scRight.nd rfl (Or.inl rfl)) (pgs_cons (pg_name (i := 16) scRight.nd rfl (Or.inr rfl)) pgs_nil)))))
        (pss_cons (ps_if (pt_cmpR op_eq (pv 16) (pe_glob (v := .int (-1)) rfl hS ⟨_, rfl⟩) (nomark _)) pss_never pss_nil)
        (Evl.pss_cut (ps_if (pt_cmpR op_eq (pv 15) pe_int (nomark _))
          (pss_cons (ps_if (pt_cmp (pc_dnotin hu1 (pe_tup (pa_cons (pv 10) (pa_cons (pv 14) pa_nil))) (pe_ix (ixL_K (K := K) rfl) (pv 7) pe_int (fun _ _ => rfl)))) pss_never pss_nil)
          (pss_one (ps_setLc (i := 17) (own := [("q", 20), ("y", 21)]) (g := gTup K 2 (gCons (gName 20) (gCons (gName 21) gNil))) (tt := tYes) rfl scRight.nd rfl rfl (sw_true rfl rfl rfl (by decide +kernel))
            (pi_list (pe_get hu1 (pe_ix (ixL_K (K := K) rfl) (pv 9) pe_int (fun _ _ => rfl)) (pv 13) (pe_lst pa_nil) ⟨rfl, rfl, rfl, rfl⟩)) (blkOk_by (N := nRight) (sc := defScope (top 12)) (by decide +kernel))
            (fun _ _ _ _ _ => pg_tup rfl (pgs_cons (pg_name (i := 20) scRight.nd rfl (Or.inl rfl)) (pgs_cons (pg_name (i := 21) scRight.nd rfl (Or.inl rfl)) pgs_nil))) (fun _ _ _ _ _ => pts_nil)
            (fun _ _ _ _ _ => pe_tup (pa_cons (pe_ix (ixT_K (K := K) rfl) (pe_ix (ixT_K (K := K) rfl) (pv 2) (pv 10) (fun _ _ => rfl)) (pv 14) (fun _ _ => rfl)) (pa_cons (pv 16) (pa_cons (pv 21) (pa_cons (pv 20) pa_nil))))))))
          (pss_cons (ps_if (pt_cmp (pc_dnotin hu1 (pe_tup (pa_cons (pv 13) (pa_cons (pv 14) pa_nil))) (pe_ix (ixL_K (K := K) rfl) (pv 7) pe_int (fun _ _ => rfl)))) pss_never pss_nil)
          (pss_one (ps_setLc (i := 17) (own := [("q", 20), ("y", 21)]) (g := gTup K 2 (gCons (gName 20) (gCons (gName 21) gNil))) (tt := tYes) rfl scRight.nd rfl rfl (sw_true rfl rfl rfl (by decide +kernel))
            (pi_list (pe_get hu1 (pe_ix (ixL_K (K := K) rfl) (pv 9) pe_int (fun _ _ => rfl)) (pv 10) (pe_lst pa_nil) ⟨rfl, rfl, rfl, rfl⟩)) (blkOk_by (N := nRight) (sc := defScope (top 12)) (by decide +kernel))
            (fun _ _ _ _ _ => pg_tup rfl (pgs_cons (pg_name (i := 20) scRight.nd rfl (Or.inl rfl)) (pgs_cons (pg_name (i := 21) scRight.nd rfl (Or.inl rfl)) pgs_nil))) (fun _ _ _ _ _ => pts_nil)
            (fun _ _ _ _ _ => pe_tup (pa_cons (pv 20) (pa_cons (pv 16) (pa_cons (pv 21) (pa_cons (pe_ix (ixT_K (K := K) rfl) (pe_ix (ixT_K (K := K) rfl) (pv 3) (pv 13) (fun _ _ => rfl)) (pv 14) (fun _ _ => rfl)) pa_nil)))))))))
        (pss_one (ps_if (pt_not (pt_val (pe_callB (cr_all rfl) (by rfl) G.all (by decide +kernel) (pa_cons
          (pe_lc (own := [("element", 19)]) (g := gName 19) (tt := tYes) rfl scRight.nd (pi_list (pv 17)) (blkOk_by (N := nRight) (sc := defScope (top 12)) (by decide +kernel)) (fun _ _ _ _ _ => pg_name (i := 19) scRight.nd rfl (Or.inl rfl)) (fun _ _ _ _ _ => pts_nil)
            (fun _ _ _ _ _ => pe_cmp (pc_din hu1 (pv 19) (pv 8)))) pa_nil)))) pss_never pss_nil))))))
      (pss_one (ps_ret pe_bl)))))))), ?_⟩
    refine ⟨_, rfl, _, rfl, a, v, l, r, e0, e1, me, m, ns, k, A, E, M, rfl, hM, c, g, fun H1 s1 => ⟨_, rfl, iteF ?_⟩⟩
    have c1 := c.keep (TX.same s1)
    refine ⟨_, rfl, v, _, rfl, SqT.of c1.tup, rfl, _, _, rfl, _, _, rfl, _, _, rfl, _, _, rfl, _, _, rfl, rfl, ?_⟩
    -- (0, 0) not in left_edges ..
    obtain ⟨as0, x0, y0⟩ := c1.e0
    refine ⟨sz1000 (by show 2 ≤ 100000; decide), fun p1 n1 => ?_⟩
    have t1 : TX H1 (upd H1 p1 (.tup [.int 0, .int 0])) := TX.new n1
    refine ⟨_, rfl, e0, p1, as0, _, [0, 0], rfl, rfl, t1 _ _ x0, Paired.mono (fun _ _ q => TN.keep t1 q) y0, upd_same, false, by rw [decide_eq_true (show ([0, 0] : List Int) ∈ _ from in_map (R.e0 false))]; rfl, iteF ?_⟩
    have c2 := c1.keep t1
    obtain ⟨as1, x1, y1⟩ := c2.e1
    refine ⟨sz1000 (by show 2 ≤ 100000; decide), fun p2 n2 => ?_⟩
    have t2 : TX (upd H1 p1 (.tup [.int 0, .int 0])) (upd (upd H1 p1 (.tup [.int 0, .int 0])) p2 (.tup [.int 0, .int 0])) := TX.new n2
    refine ⟨_, rfl, e1, p2, as1, _, [0, 0], rfl, rfl, t2 _ _ x1, Paired.mono (fun _ _ q => TN.keep t2 q) y1, upd_same, false, by rw [decide_eq_true (show ([0, 0] : List Int) ∈ _ from in_map (R.e0 true))]; rfl, iteF ?_⟩
    have c3 := c2.keep t2
    obtain ⟨as2, x2, y2⟩ := c3.me
    refine ⟨sz1000 (by show 4 ≤ 100000; decide), fun p3 n3 => ?_⟩
    have s4 : Same H (upd (upd (upd H1 p1 (.tup [.int 0, .int 0])) p2 (.tup [.int 0, .int 0])) p3 (.tup [.int 0, .int 0, .int 0, .int 0])) := s1.trans ((Same.new n1).trans ((Same.new n2).trans (Same.new n3)))
    have t3 : TX (upd (upd H1 p1 (.tup [.int 0, .int 0])) p2 (.tup [.int 0, .int 0])) (upd (upd (upd H1 p1 (.tup [.int 0, .int 0])) p2 (.tup [.int 0, .int 0])) p3 (.tup [.int 0, .int 0, .int 0, .int 0])) := TX.new n3
    refine ⟨_, rfl, me, p3, as2, _, [0, 0, 0, 0], rfl, rfl, t3 _ _ x2, Paired.mono (fun _ _ q => TN.keep t3 q) y2, upd_same, false, by rw [decide_eq_true (show ([0, 0, 0, 0] : List Int) ∈ _ from in_mapM R.m0)]; rfl, iteF ?_⟩
    have c4 := c3.keep t3
    generalize upd (upd (upd H1 p1 (.tup [.int 0, .int 0])) p2 (.tup [.int 0, .int 0])) p3 (.tup [.int 0, .int 0, .int 0, .int 0]) = H4 at s4 c4 ⊢
    -- sides
    refine dcT_all (K := K) (rows := (E false).map edL) (by rfl) (by intro _; rfl) (by intro _; rfl) c4.e0 (by rw [List.length_map]; exact g.lenE false) fun D0 k0 H5 hD0 s5 hd0 in0 => ?_
    have c5 := c4.keep (TX.same s5)
    refine dcT_all (K := K) (rows := (E true).map edL) (by rfl) (by intro _; rfl) (by intro _; rfl) c5.e1 (by rw [List.length_map]; exact g.lenE true) fun D1 k1 H6 hD1 s6 hd1 in1 => ?_
    have c6 := c5.keep (TX.same s6)
    refine ⟨sz1000 (by show 2 ≤ 100000; decide), fun S hS => ?_⟩
    -- known
    have s7 : Same H6 (upd H6 S (.lst [.ref D0, .ref D1])) := Same.new hS
    refine dcT_all (K := K) (rows := M.map elL) (by rfl) (by intro _; rfl) (by intro _; rfl) (c6.keep (TX.same s7)).me (by rw [List.length_map]; exact g.lenM) fun DK kk H8 hDK s8 hdk ink => ?_
    have c8 := (c6.keep (TX.same s7)).keep (TX.same s8)
    -- into
    refine ⟨_, rfl, _, rfl, l, e0, A false, k, E false, rfl, c8.l, R.aut false, c8.e0, R.eR false, g.lenE false, fun i0 H9 ad0 hi0 s9 M0 => ?_⟩
    have c9 := c8.keep (TX.same s9)
    refine ⟨_, rfl, _, rfl, r, e1, A true, k, E true, rfl, c9.r, R.aut true, c9.e1, R.eR true, g.lenE true, fun i1 H10 ad1 hi1 s10 M1 => ?_⟩
    refine ⟨sz1000 (by show 2 ≤ 100000; decide), fun I hI => ?_⟩
    have s11 : Same H10 (upd H10 I (.lst [.ref i0, .ref i1])) := Same.new hI
    -- what stands from here on
    have z6 : Same H6 (upd H10 I (.lst [.ref i0, .ref i1])) := s7.trans (s8.trans (s9.trans (s10.trans s11)))
    have zc := c6.keep (TX.same z6)
    have zm := hM.keep (TX.same ((s4.trans (s5.trans s6)).trans z6))
    have zs0 : upd H10 I (.lst [.ref i0, .ref i1]) D0 = some (.dT k0) := z6 _ _ (s6 _ _ hd0)
    have zs1 : upd H10 I (.lst [.ref i0, .ref i1]) D1 = some (.dT k1) := z6 _ _ hd1
    have zS : upd H10 I (.lst [.ref i0, .ref i1]) S = some (.lst [.ref D0, .ref D1]) := (s8.trans (s9.trans (s10.trans s11))) _ _ upd_same
    have zk : upd H10 I (.lst [.ref i0, .ref i1]) DK = some (.dT kk) := (s9.trans (s10.trans s11)) _ _ hdk
    have zM0 := M0.same keepCL (s10.trans s11)
    have zM1 := M1.same keepCL s11
    have zI : upd H10 I (.lst [.ref i0, .ref i1]) I = some (.lst [.ref i0, .ref i1]) := upd_same
    have zH := (s4.trans (s5.trans s6)).trans z6
    generalize upd H10 I (.lst [.ref i0, .ref i1]) = Z at zc zm zs0 zs1 zS zk zM0 zM1 zI zH ⊢
    clear z6 s11 hI s10 M1 hi1 c9 s9 M0 hi0 c8 s8 hdk hDK s7 hS c6 s6 hd1 hD1 c5 s5 hd0 hD0 c4 s4 c3 c2 c1
    obtain ⟨asM, hvM, hrM⟩ := id zc.me
    have hlM : asM.length = M.length := by rw [Paired.length hrM, List.length_map]
    refine ⟨_, rfl, me, rfl, ⟨_, SqT.of hvM⟩, for_tup (K := K) (a := me) (xs := asM.map V.ref)
      (fun i σ H' => Same Z H' ∧ ∃ u10 u11 u12 u13 u14 u15 u16 u17, σ = [some (.ref a), some (.ref v), some (.ref l), some (.ref r), some (.ref e0), some (.ref e1), some (.ref me), some (.ref S), some (.ref DK), some (.ref I), u10, u11, u12, u13, u14, u15, u16, u17, none, none, none, none])
      ⟨Same.refl Z, none, none, none, none, none, none, none, none, rfl⟩ (fun i σ H' _ p => SqT.of (p.1 _ _ hvM)) ?_ ?_⟩
    · rintro i x σ H' hx ⟨t, u10, u11, u12, u13, u14, u15, u16, u17, rfl⟩
      obtain ⟨hi, _⟩ := List.getElem?_eq_some_iff.mp hx
      rw [List.length_map] at hi
      obtain ⟨cx, rw', e1', e2', e3'⟩ := paired_at hrM i (by rw [List.length_map]; omega)
      rw [List.getElem?_map, e1'] at hx
      obtain rfl : V.ref cx = x := Option.some.inj hx
      rw [List.getElem?_map] at e2'
      cases ex : M[i]? with
      | none => rw [ex] at e2'; cases e2'
      | some el =>
        rw [ex] at e2'
        obtain rfl : elL el = rw' := Option.some.inj e2'
        have hel := List.mem_of_getElem? ex
        obtain ⟨x1', x2', x3', x4'⟩ := R.mR el hel
        have tt := TX.same t
        have wc := zc.keep tt
        have hcx : H' cx = some (.tup [.int el.1, .int el.2.1, .int el.2.2.1, .int el.2.2.2]) := t _ _ e3'
        obtain ⟨b, xs, c2, ys, g1, g2, g3, g4, g5⟩ := (zm.keep tt).at R.mch x2' x3'
        obtain ⟨r1, r2, r3, r4⟩ := R.mch.rlR x2' x3'
        have hgo := R.go el hel
        have hrt := R.rt el hel
        have hlt := R.lt el hel
        generalize hrule : rl m el.2.1 el.2.2.1 = rule at g5 r1 r2 r3 r4 hgo hrt hlt
        obtain ⟨wr, mv, fo⟩ := rule
        simp only at r1 r2 r3 r4 hgo hrt hlt
        have hg5 : H' c2 = some (.tup [.int wr, .int mv, .int fo]) := g5
        refine ⟨cx, _, rfl, SqT.of hcx, rfl, _, _, rfl, _, _, rfl, _, _, rfl, _, _, rfl, rfl, ?_⟩
        refine ⟨_, rfl, _, rfl, a, xs, _, _, rfl, rfl, SqT.of g1, g2, _, rfl, b, ys, _, _, rfl, rfl, SqT.of g3, g4, c2, _, rfl, SqT.of hg5, rfl, _, _, rfl, _, _, rfl, _, _, rfl, rfl, ?_⟩
        refine ⟨_, rfl, rfl, _, rfl, iteDN (fun q => hgo (V.int.inj q)) ?_⟩
        refine ⟨fun σ' H2 => Same H' H2 ∧ ∃ D bs rows, σ' = [some (.ref a), some (.ref v), some (.ref l), some (.ref r), some (.ref e0), some (.ref e1), some (.ref me), some (.ref S), some (.ref DK), some (.ref I), some (.int el.1), some (.int el.2.1), some (.int el.2.2.1), some (.int el.2.2.2), some (.int wr), some (.int mv), some (.int fo), some (.ref D), none, none, none, none] ∧
          H2 D = some (.lst (bs.map V.ref)) ∧ Paired (TN H2) bs rows ∧ rows.length ≤ 3000 ∧ ∀ r ∈ rows, r ∈ M.map elL, ?_, ?_⟩
        · refine ⟨_, rfl, rfl, _, rfl, ?_⟩
          rcases r2 with e | e
          · -- to the right
            subst e
            refine iteD rfl ?_
            obtain ⟨q1, q2⟩ := hrt rfl
            obtain ⟨vv, hvv⟩ := in0 _ (in_map q1)
            refine ⟨_, rfl, _, rfl, sz1000 (by show 2 ≤ 100000; decide), fun p hp => ?_⟩
            have sp : Same H' (upd H' p (.tup [.int el.1, .int wr])) := Same.new hp
            have dg : DGet (upd H' p (.tup [.int el.1, .int wr])) D0 (.ref p) (some vv) := by
              have := DGet.t (sp _ _ (t _ _ zs0)) (TN.key (show TN _ p [el.1, wr] from upd_same))
              rw [show kI [el.1, wr] = kI (edL (el.1, wr)) from rfl, hvv] at this
              exact this
            refine ⟨_, rfl, S, _, 0, _, rfl, rfl, SqL.of (sp _ _ (t _ _ zS)), rfl, D0, some vv, rfl, dg, false, rfl, iteF ?_⟩
            refine MapAt.getL ((zM1.same keepCL t).same keepCL sp) (fun Q' q => ⟨_, rfl, I, _, 1, _, rfl, rfl, SqL.of (sp _ _ (t _ _ zI)), rfl, q⟩) (fun Q' q => ⟨_, rfl, q⟩) (fun Q' q => ⟨Nat.zero_le _, q⟩) fun b3 H3 s3 hcl => ?_
            obtain ⟨as3, l1, l2⟩ := hcl
            have h3len : as3.length = (into (A true) (E true) el.2.2.2).length := by rw [Paired.length l2, List.length_map]
            have h3le : (into (A true) (E true) el.2.2.2).length ≤ 3000 := Nat.le_trans (List.length_filter_le _ _) (g.lenE true)
            refine ⟨b3, rfl, ⟨_, SqL.of l1⟩, fun D hD => lc_list (K := K) (a := b3) (xs := as3.map V.ref) (fun i H2 => Made H3 D (((into (A true) (E true) el.2.2.2).take i).map fun e => elL (nx (A false) el.1 wr, fo, e.2, e.1)) H2)
              (by rw [List.take_zero]; exact Made.nil hD) (fun i H2 _ mm => SqL.of (mm.1 _ _ l1)) ?_ ?_⟩
            · intro j y H2 hy mm
              obtain ⟨hj, _⟩ := List.getElem?_eq_some_iff.mp hy
              rw [List.length_map] at hj
              obtain ⟨c4, r4', d1, d2, d3⟩ := paired_at l2 j (by rw [List.length_map]; omega)
              rw [List.getElem?_map, d1] at hy
              obtain rfl : V.ref c4 = y := Option.some.inj hy
              rw [List.getElem?_map] at d2
              cases ey : (into (A true) (E true) el.2.2.2)[j]? with
              | none => rw [ey] at d2; cases d2
              | some ed =>
                rw [ey] at d2
                obtain rfl : edL ed = r4' := Option.some.inj d2
                have d4 : H2 c4 = some (.tup [.int ed.1, .int ed.2]) := mm.1 _ _ d3
                have tx2 := ((TX.same (t.trans sp)).trans (TX.same s3)).trans (TX.same mm.1)
                obtain ⟨b5, xs5, ys5, f1, f2, f3, f4⟩ := (zc.keep tx2).l.at (R.aut false) x1' r1
                refine ⟨c4, _, rfl, SqT.of d4, rfl, _, _, rfl, _, _, rfl, rfl, rfl, yesT ?_⟩
                refine ⟨_, rfl, _, rfl, l, xs5, _, _, rfl, rfl, SqT.of f1, f2, _, rfl, b5, ys5, _, _, rfl, rfl, SqT.of f3, f4, _, rfl, _, rfl, _, rfl, sz1000 (by show 4 ≤ 100000; decide), fun p5 n5 => ?_⟩
                obtain ⟨acc, m1, m2, m3⟩ := mm.snoc (r := elL (nx (A false) el.1 wr, fo, ed.2, ed.1)) hD n5
                refine ⟨acc, m1, szlt (by rw [m2, List.length_map, List.length_take]; omega), ?_⟩
                rw [List.take_add_one, ey, List.map_append]
                exact m3
            · intro H2 mm
              rw [List.length_map, h3len, List.take_length] at mm
              obtain ⟨ms, bs, m1, m2⟩ := mm
              refine ⟨sp.trans (s3.trans ms), D, bs, _, rfl, m1, m2, by rw [List.length_map]; exact h3le, fun r hr => ?_⟩
              obtain ⟨ed, hed, rfl⟩ := List.mem_map.mp hr
              have h5 := List.mem_filter.mp hed
              exact in_mapM (q2 ed.1 ed.2 h5.1 (of_decide_eq_true h5.2))
          · -- to the left
            subst e
            refine iteDN (by decide) ?_
            obtain ⟨q1, q2⟩ := hlt (by decide)
            obtain ⟨vv, hvv⟩ := in1 _ (in_map q1)
            refine ⟨_, rfl, _, rfl, sz1000 (by show 2 ≤ 100000; decide), fun p hp => ?_⟩
            have sp : Same H' (upd H' p (.tup [.int el.2.2.2, .int wr])) := Same.new hp
            have dg : DGet (upd H' p (.tup [.int el.2.2.2, .int wr])) D1 (.ref p) (some vv) := by
              have := DGet.t (sp _ _ (t _ _ zs1)) (TN.key (show TN _ p [el.2.2.2, wr] from upd_same))
              rw [show kI [el.2.2.2, wr] = kI (edL (el.2.2.2, wr)) from rfl, hvv] at this
              exact this
            refine ⟨_, rfl, S, _, 1, _, rfl, rfl, SqL.of (sp _ _ (t _ _ zS)), rfl, D1, some vv, rfl, dg, false, rfl, iteF ?_⟩
            refine MapAt.getL ((zM0.same keepCL t).same keepCL sp) (fun Q' q => ⟨_, rfl, I, _, 0, _, rfl, rfl, SqL.of (sp _ _ (t _ _ zI)), rfl, q⟩) (fun Q' q => ⟨_, rfl, q⟩) (fun Q' q => ⟨Nat.zero_le _, q⟩) fun b3 H3 s3 hcl => ?_
            obtain ⟨as3, l1, l2⟩ := hcl
            have h3len : as3.length = (into (A false) (E false) el.1).length := by rw [Paired.length l2, List.length_map]
            have h3le : (into (A false) (E false) el.1).length ≤ 3000 := Nat.le_trans (List.length_filter_le _ _) (g.lenE false)
            refine ⟨b3, rfl, ⟨_, SqL.of l1⟩, fun D hD => lc_list (K := K) (a := b3) (xs := as3.map V.ref) (fun i H2 => Made H3 D (((into (A false) (E false) el.1).take i).map fun e => elL (e.1, fo, e.2, nx (A true) el.2.2.2 wr)) H2)
              (by rw [List.take_zero]; exact Made.nil hD) (fun i H2 _ mm => SqL.of (mm.1 _ _ l1)) ?_ ?_⟩
            · intro j y H2 hy mm
              obtain ⟨hj, _⟩ := List.getElem?_eq_some_iff.mp hy
              rw [List.length_map] at hj
              obtain ⟨c4, r4', d1, d2, d3⟩ := paired_at l2 j (by rw [List.length_map]; omega)
              rw [List.getElem?_map, d1] at hy
              obtain rfl : V.ref c4 = y := Option.some.inj hy
              rw [List.getElem?_map] at d2
              cases ey : (into (A false) (E false) el.1)[j]? with
              | none => rw [ey] at d2; cases d2
              | some ed =>
                rw [ey] at d2
                obtain rfl : edL ed = r4' := Option.some.inj d2
                have d4 : H2 c4 = some (.tup [.int ed.1, .int ed.2]) := mm.1 _ _ d3
                have tx2 := ((TX.same (t.trans sp)).trans (TX.same s3)).trans (TX.same mm.1)
                obtain ⟨b5, xs5, ys5, f1, f2, f3, f4⟩ := (zc.keep tx2).r.at (R.aut true) x4' r1
                refine ⟨c4, _, rfl, SqT.of d4, rfl, _, _, rfl, _, _, rfl, rfl, rfl, yesT ?_⟩
                refine ⟨_, rfl, _, rfl, _, rfl, _, rfl, _, rfl, r, xs5, _, _, rfl, rfl, SqT.of f1, f2, _, rfl, b5, ys5, _, _, rfl, rfl, SqT.of f3, f4, sz1000 (by show 4 ≤ 100000; decide), fun p5 n5 => ?_⟩
                obtain ⟨acc, m1, m2, m3⟩ := mm.snoc (r := elL (ed.1, fo, ed.2, nx (A true) el.2.2.2 wr)) hD n5
                refine ⟨acc, m1, szlt (by rw [m2, List.length_map, List.length_take]; omega), ?_⟩
                rw [List.take_add_one, ey, List.map_append]
                exact m3
            · intro H2 mm
              rw [List.length_map, h3len, List.take_length] at mm
              obtain ⟨ms, bs, m1, m2⟩ := mm
              refine ⟨sp.trans (s3.trans ms), D, bs, _, rfl, m1, m2, by rw [List.length_map]; exact h3le, fun r hr => ?_⟩
              obtain ⟨ed, hed, rfl⟩ := List.mem_map.mp hr
              have h5 := List.mem_filter.mp hed
              exact in_mapM (q2 ed.1 ed.2 h5.1 (of_decide_eq_true h5.2))
        · -- all([element in known for element in due])
          rintro σ' H2 ⟨t2, D, bs, rows, rfl, hD, hP, hl3, hin⟩
          have hbl : bs.length = rows.length := Paired.length hP
          refine ⟨_, rfl, D, rfl, ⟨_, SqL.of hD⟩, fun L hL => lc_list (K := K) (a := D) (xs := bs.map V.ref) (fun i H3 => Same H2 H3 ∧ H3 L = some (.lst (List.replicate i (V.bl true))))
            ⟨Same.new hL, upd_same⟩ (fun i H3 _ p => SqL.of (p.1 _ _ hD)) ?_ ?_⟩
          · rintro j y H3 hy ⟨s3, d3⟩
            obtain ⟨hj, _⟩ := List.getElem?_eq_some_iff.mp hy
            rw [List.length_map] at hj
            obtain ⟨c4, r4', f1, f2, f3⟩ := paired_at hP j (by omega)
            rw [List.getElem?_map, f1] at hy
            obtain rfl : V.ref c4 = y := Option.some.inj hy
            obtain ⟨vv, hvv⟩ := ink r4' (hin r4' (List.mem_of_getElem? f2))
            have dg : DGet H3 DK (.ref c4) (some vv) := by
              have := DGet.t (s3 _ _ (t2 _ _ (t _ _ zk))) (TN.key (show TN H3 c4 r4' from s3 _ _ f3))
              rw [hvv] at this
              exact this
            refine ⟨rfl, yesT ?_⟩
            refine ⟨_, rfl, _, rfl, DK, some vv, rfl, dg, _, d3, szlt (by rw [List.length_replicate]; omega), Same.mut s3 hL, ?_⟩
            rw [upd_same]
            exact congrArg some (congrArg HO.lst (rep_snoc j (V.bl true)))
          · rintro H3 ⟨s3, d3⟩
            refine ⟨L, _, rfl, sql_rep d3, _, rfl, ?_⟩
            rw [rep_all]
            exact iteF ⟨t.trans (t2.trans s3), _, _, _, _, _, _, _, _, rfl⟩
    · rintro σ H' ⟨t, u10, u11, u12, u13, u14, u15, u16, u17, rfl⟩
      exact q H' (zH.trans t)
end
end Tac
namespace Tac
open PySem PySem.Spec PyProof.Rows L2 TacR
section
variable {P : Program} {w : World} {K : PySem.W.Frag} {mg : Str → Option Value} {base : Heap}
/-! ### tuples cut, joined, repeated: some tuple that holds the items -/
section
variable {X : Cx}
def rSlW : V → Option Int → Option Int → Hp → VK → Prop := fun x lo hi H Q => ∃ a xs, x = .ref a ∧ H a = some (.tup xs) ∧ ∀ p H', Same H H' → H' p = some (.tup (cutV xs lo hi)) → Q (.ref p) H'
theorem sl_W : SlR X rSlW := by
  intro pins s σ H x v vl vu lo hi sl Q I rx hs pl pu h
  obtain ⟨a, xs, rfl, hx, q⟩ := h
  refine sl_tupA pins s σ H _ v vl vu lo hi sl Q I rx hs pl pu ⟨a, xs, rfl, SqT.of hx, fun hw => q a H (Same.refl H) ?_, fun _ p hp => q p _ (Same.new hp) upd_same⟩
  rw [hx]
  unfold cutV
  rw [hw.1, hw.2, List.drop_zero, Nat.sub_zero, List.take_length]
def rCatW : R2 := fun x y H Q => ∃ a b xs ys, x = .ref a ∧ y = .ref b ∧ H a = some (.tup xs) ∧ H b = some (.tup ys) ∧ xs.length + ys.length ≤ 100000 ∧ ∀ p H', Same H H' → H' p = some (.tup (xs ++ ys)) → Q (.ref p) H'
theorem op_catW : OpR X (binaryOp .Add) rCatW := by
  intro pins s σ H x y v u Q I rx ry h
  obtain ⟨a, b, xs, ys, rfl, rfl, ha, hb, hz, q⟩ := h
  refine op_catA pins s σ H _ _ v u Q I rx ry ⟨a, b, xs, ys, rfl, rfl, SqT.of ha, SqT.of hb, sz1000 hz, fun e => q b H (Same.refl H) ?_, fun _ e => q a H (Same.refl H) ?_, fun _ _ p hp => q p _ (Same.new hp) upd_same⟩
  · rw [e, List.nil_append]
    exact hb
  · rw [e, List.append_nil]
    exact ha
/-- (z,) * k -/
def rRepW : R2 := fun x y H Q => ∃ (l : Addr) (k : Int) (z : V), x = .ref l ∧ y = .int k ∧ H l = some (.tup [z]) ∧ -1000000 ≤ k ∧ k ≤ 1000 ∧ ∀ p H', Same H H' → H' p = some (.tup (List.replicate k.toNat z)) → Q (.ref p) H'
theorem op_repW : OpR X (binaryOp .Mult) rRepW := by
  intro pins s σ H x y v u Q I rx ry h
  obtain ⟨l, k, z, rfl, rfl, hl, h1, h2, q⟩ := h
  have e : ∀ n : Nat, (List.replicate n [z]).flatten = List.replicate n z := fun n => by
    induction n with
    | zero => rfl
    | succ n ih => rw [List.replicate_succ, List.flatten_cons, ih]; rfl
  refine op_repZ pins s σ H _ _ v u Q I rx ry ⟨l, k, [z], rfl, rfl, SqT.of hl, by simp, h1, h2, by simp, fun hk => q l H (Same.refl H) ?_, fun _ p hp => q p _ (Same.new hp) ?_⟩
  · rw [hl, hk]
    rfl
  · rw [upd_same, e]
end
/-! ### all([x in t for x in l]) -/
@[irreducible] def tAllIn (K : PySem.W.Frag) (i s j : Nat) (vs : List Nat) : TE := tCB (rAll K) (tCons (tLc (iList K (tVar i)) (gName s) tYes (tOp (rInT false) (tVar s) (tVar j)) vs) tNil)
theorem allIn {σ : L2.St} {H : Hp} {Q : VK} {i s j : Nat} {vs : List Nat} {u e : Addr} {bs as : List Addr} {rows ks : List (List Int)} (hi : σ[i]? = some (some (.ref u))) (hs : ∀ x, ((wipe σ vs).set s (some x))[s]? = some (some x)) (hj : ∀ x, ((wipe σ vs).set s (some x))[j]? = some (some (.ref e)))
    (hw : ∀ x, wipe ((wipe σ vs).set s (some x)) vs = wipe σ vs) (hu : H u = some (.lst (bs.map V.ref))) (hb : Paired (TN H) bs rows) (he : H e = some (.tup (as.map V.ref))) (ha : Paired (TN H) as ks) (hl : rows.length ≤ 3000)
    (k : ∀ (b : Bool) H', Same H H' → (b = true ↔ ∀ r ∈ rows, r ∈ ks) → Q (.bl b) H') : tAllIn K i s j vs σ H Q := by
  unfold tAllIn
  have hlen : bs.length = rows.length := Paired.length hb
  refine ⟨_, hi, u, rfl, ⟨_, SqL.of hu⟩, fun D hD => lc_list (K := K) (a := u) (xs := bs.map V.ref) (fun i H2 => Same H H2 ∧ H2 D = some (.lst ((rows.take i).map fun r => V.bl (decide (r ∈ ks)))))
    ⟨Same.new hD, by rw [upd_same]; rfl⟩ (fun i H2 _ p => SqL.of (p.1 _ _ hu)) ?_ ?_⟩
  · rintro n y H2 hy ⟨s2, d2⟩
    obtain ⟨hn, _⟩ := List.getElem?_eq_some_iff.mp hy
    rw [List.length_map] at hn
    obtain ⟨c, r, e1, e2, e3⟩ := paired_at hb n (by omega)
    rw [List.getElem?_map, e1] at hy
    obtain rfl : V.ref c = y := Option.some.inj hy
    have tx := TX.same s2
    refine ⟨hw _, yesT ?_⟩
    refine ⟨_, hs _, _, hj _, e, c, as, ks, r, rfl, rfl, tx _ _ he, Paired.mono (fun _ _ q => TN.keep tx q) ha, TN.keep tx e3, _, d2, szlt (by rw [List.length_map, List.length_take]; omega), Same.mut s2 hD, ?_⟩
    rw [upd_same, List.take_add_one, e2, List.map_append]
    rfl
  · rintro H2 ⟨s2, d2⟩
    rw [List.length_map, hlen, List.take_length] at d2
    refine ⟨D, rows.map (fun r => decide (r ∈ ks)), rfl, by rw [List.map_map]; exact SqL.of d2, k _ H2 s2 ?_⟩
    rw [List.all_eq_true]
    constructor
    · intro h r hr
      have := h _ (List.mem_map.mpr ⟨r, hr, rfl⟩)
      exact of_decide_eq_true this
    · intro h b hb
      obtain ⟨r, hr, rfl⟩ := List.mem_map.mp hb
      exact decide_eq_true (h r hr)
/-! ### read -/
def trail (A : AutT) : Int → List Int → List Ed
  | _, [] => []
  | q, x :: r => (q, x) :: trail A (nx A q x) r
theorem trail_snoc (A : AutT) : ∀ (xs : List Int) (q x : Int), trail A q (xs ++ [x]) = trail A q xs ++ [(rd A q xs, x)]
  | [], q, x => rfl
  | y :: r, q, x => by
    show (q, y) :: trail A (nx A q y) (r ++ [x]) = (q, y) :: (trail A (nx A q y) r ++ [(rd A (nx A q y) r, x)])
    rw [trail_snoc A r]
theorem trail_ok (A : AutT) (E : List Ed) : ∀ (xs : List Int) (q : Int), okE A E q xs ↔ ∀ p ∈ trail A q xs, p ∈ E
  | [], q => ⟨fun _ p h => (nomatch h), fun _ => trivial⟩
  | x :: r, q => by
    show ((q, x) ∈ E ∧ okE A E (nx A q x) r) ↔ ∀ p ∈ (q, x) :: trail A (nx A q x) r, p ∈ E
    rw [trail_ok A E r, List.forall_mem_cons]
theorem trail_len (A : AutT) : ∀ (xs : List Int) (q : Int), (trail A q xs).length = xs.length
  | [], _ => rfl
  | x :: r, q => by
    show (trail A (nx A q x) r).length + 1 = r.length + 1
    rw [trail_len A r]
theorem rdR {A : AutT} {k : Nat} (hA : Aut A k) : ∀ {xs : List Int} {q : Int}, Lt A.length q → (∀ x ∈ xs, Lt k x) → Lt A.length (rd A q xs)
  | [], q, hq, _ => hq
  | x :: r, q, hq, h => rdR hA (xs := r) (hA.nxR hq (h x (List.mem_cons_self ..))) fun y hy => h y (List.mem_cons_of_mem _ hy)
def spRead : Sp := fun vs H Q _ => ∃ (a y : Addr) (A : AutT) (k : Nat) (xs : List Int), vs = [.ref a, .ref y] ∧ T2 H a A ∧ Aut A k ∧ TN H y xs ∧ (∀ x ∈ xs, Lt k x) ∧ xs.length ≤ 2000 ∧
  ∀ p u H' bs, Same H H' → H' p = some (.tup [.int (rd A 0 xs), .ref u]) → H' u = some (.lst (bs.map V.ref)) → Paired (TN H') bs (((0, 0) :: trail A 0 xs).map edL) → Q (.ref p) H'
theorem scRead : FnScope ["automaton", "symbols", "row", "used", "symbol"] ["automaton", "symbols"] (defScope (top 15)) := ⟨rfl, rfl, rfl, by decide +kernel, rfl, by decide +kernel, by decide +kernel⟩
theorem ok_read {f : Addr} {fd : FuncData} (F : FnP K "read" "read" (top 15) f fd) (G : Gx mg) : FnOk P w K mg base CX0 1 f fd ["automaton", "symbols"] spRead := by
  refine F.ok scRead (fun vs H Q E h => ?_) (fun cdv A' outer s H vs Q E' hr h => ?_)
  · obtain ⟨a, y, A, k, xs, rfl, _⟩ := h
    rfl
  · obtain ⟨a, y, A, k, xs, rfl, hT, hA, hY, hk, hl, q⟩ := h
    refine ⟨_, pss_cons (ps_set (i := 2) scRead.nd rfl (Or.inl rfl) pe_int) (pss_cons (ps_set (i := 3) scRead.nd rfl (Or.inl rfl) (pe_lst (pa_cons (pe_tup (pa_cons pe_int (pa_cons pe_int pa_nil))) pa_nil)))
      (pss_cons (ps_for PassesOwn.never rfl (pi_tup (pv 1)) (pg_name (i := 4) scRead.nd rfl (Or.inl rfl))
        (pss_cons (ps_expr (pe_bm PySem.F.plainAttrs_list PySem.F.slot_list_append PySem.F.type_list_append mt_append (pv 3) (pa_cons (pe_tup (pa_cons (pv 2) (pa_cons (pv 4) pa_nil))) pa_nil)))
        (pss_one (ps_set (i := 2) scRead.nd rfl (Or.inl rfl) (pe_ix (ixT_K (K := K) rfl) (pe_ix (ixT_K (K := K) rfl) (pv 0) (pv 2) (fun _ _ => rfl)) (pv 4) (fun _ _ => rfl))))))
      (pss_one (ps_ret (pe_tup (pa_cons (pv 2) (pa_cons (pv 3) pa_nil))))))), ?_⟩
    refine ⟨sz1000 (by show 2 ≤ 100000; decide), fun p0 n0 => ?_⟩
    refine ⟨sz1000 (by show 1 ≤ 100000; decide), fun u n1 => ?_⟩
    have sp0 : Same H (upd H p0 (.tup [.int 0, .int 0])) := Same.new n0
    have m0 : Made (upd H p0 (.tup [.int 0, .int 0])) u [[0, 0]] (upd (upd H p0 (.tup [.int 0, .int 0])) u (.lst [.ref p0])) :=
      ⟨Same.new n1, [p0], upd_same, .cons (TN.keep (TX.new n1) (show TN _ p0 [0, 0] from upd_same)) .nil⟩
    have hY1 := (TX.same sp0) _ _ hY
    refine ⟨_, rfl, y, rfl, ⟨_, SqT.of ((TX.same m0.1) _ _ hY1)⟩, for_tup (K := K) (a := y) (xs := xs.map V.int)
      (fun i σ H' => Made (upd H p0 (.tup [.int 0, .int 0])) u (((0, 0) :: trail A 0 (xs.take i)).map edL) H' ∧ ∃ w, σ = [some (.ref a), some (.ref y), some (.int (rd A 0 (xs.take i))), some (.ref u), w])
      ⟨m0, none, rfl⟩ (fun i σ H' _ p => SqT.of (p.1.1 _ _ hY1)) ?_ ?_⟩
    · rintro i x σ H' hx ⟨mm, w, rfl⟩
      rw [List.getElem?_map] at hx
      cases ex : xs[i]? with
      | none => rw [ex] at hx; cases hx
      | some z =>
        rw [ex] at hx
        obtain rfl : V.int z = x := Option.some.inj hx
        have hz := hk z (List.mem_of_getElem? ex)
        have hq := rdR hA (xs := xs.take i) (q := 0) ⟨Int.le_refl _, by have := hA.pos; omega⟩ fun y hy => hk y (List.mem_of_mem_take hy)
        obtain ⟨bs, h1, _⟩ := id mm.2
        refine ⟨_, rfl, .inl ⟨rfl, _, SqL.of h1⟩, _, rfl, _, rfl, sz1000 (by show 2 ≤ 100000; decide), fun p hp => ?_⟩
        obtain ⟨acc, m1, m2, m3⟩ := mm.snoc (r := edL (rd A 0 (xs.take i), z)) n1 hp
        have hi := (List.getElem?_eq_some_iff.mp ex).1
        refine ⟨u, acc, _, rfl, rfl, m1, szlt ?_, ?_⟩
        · rw [m2, List.length_map, List.length_cons, trail_len, List.length_take]
          omega
        · obtain ⟨b, xs', ys', g1, g2, g3, g4⟩ := (T2.keep ((TX.same sp0).trans (TX.same m3.1)) hT).at hA hq hz
          refine ⟨_, rfl, _, rfl, a, xs', _, _, rfl, rfl, SqT.of g1, g2, _, rfl, b, ys', _, _, rfl, rfl, SqT.of g3, g4, ?_⟩
          have e6 : xs.take (i + 1) = xs.take i ++ [z] := by
            rw [List.take_add_one, ex]
            rfl
          rw [e6, trail_snoc, rd_append, rd_one]
          refine ⟨?_, _, rfl⟩
          rw [← List.cons_append, List.map_append]
          exact m3
    · rintro σ H' ⟨mm, w, rfl⟩
      rw [List.length_map, List.take_length] at mm
      rw [List.length_map, List.take_length]
      refine ⟨_, rfl, _, rfl, sz1000 (by show 2 ≤ 100000; decide), fun p hp => ?_⟩
      obtain ⟨ms, bs, h1, h2⟩ := mm
      have tx : TX H' (upd H' p (.tup [.int (rd A 0 xs), .ref u])) := TX.new hp
      exact q p u _ bs (sp0.trans (ms.trans (Same.new hp))) upd_same (Same.new hp _ _ h1) (Paired.mono (fun _ _ z => TN.keep tx z) h2)
end
end Tac
namespace Tac
open PySem PySem.Spec PyProof.Rows L2 TacR
section
variable {P : Program} {w : World} {K : PySem.W.Frag} {mg : Str → Option Value} {base : Heap}
/-! ### reads: the plain law -/
theorem cut_take (c : Int → Int) (lo hi : Int) (n : Nat) (h : lo + (n : Int) ≤ hi) : (cut c lo hi).take n = cut c lo (lo + n) := by
  rw [cut_cut c (show lo ≤ lo + (n : Int) by omega) h]
  have : (cut c lo (lo + (n : Int))).length = n := by rw [cut_len]; omega
  rw [List.take_append_of_le_length (by omega), List.take_of_length_le (by omega)]
theorem cut_drop (c : Int → Int) (lo hi : Int) (n : Nat) (h : lo + (n : Int) ≤ hi) : (cut c lo hi).drop n = cut c (lo + n) hi := by
  rw [cut_cut c (show lo ≤ lo + (n : Int) by omega) h]
  have : (cut c lo (lo + (n : Int))).length = n := by rw [cut_len]; omega
  rw [List.drop_append_of_le_length (by omega), List.drop_eq_nil_of_le (by omega), List.nil_append]
/-- cells[:max(0, mid)] + (0,) * (mid - len) -/
theorem bef_eq {c : Int → Int} {lo hi p : Int} (hl : lo ≤ hi) (f : Fits c lo (hi - 1)) :
    (cut c lo hi).take (min (if p - lo > 0 then p - lo else 0).toNat (hi - lo).toNat) ++ List.replicate (p - lo - (hi - lo)).toNat 0 = leftL c lo p := by
  unfold leftL
  by_cases h1 : p ≤ lo
  · rw [cut_nil c h1]
    have e1 : min (if p - lo > 0 then p - lo else 0).toNat (hi - lo).toNat = 0 := by
      rw [if_neg (by omega)]
      omega
    have e2 : (p - lo - (hi - lo)).toNat = 0 := by omega
    rw [e1, e2]
    rfl
  · rw [if_pos (by omega)]
    by_cases h2 : p ≤ hi
    · have e1 : min (p - lo).toNat (hi - lo).toNat = (p - lo).toNat := by omega
      have e2 : (p - lo - (hi - lo)).toNat = 0 := by omega
      rw [e1, e2, cut_take c lo hi _ (by omega), show lo + (((p - lo).toNat : Nat) : Int) = p by omega]
      simp
    · have e1 : min (p - lo).toNat (hi - lo).toNat = (hi - lo).toNat := by omega
      rw [e1, cut_take c lo hi _ (by omega), show lo + (((hi - lo).toNat : Nat) : Int) = hi by omega, cut_cut c hl (show hi ≤ p by omega), cut_zero (a := hi) (b := p) fun x q _ => f.2 x (by omega)]
      congr 2
      omega
/-- ((0,) * (-mid - 1) + cells[max(0, mid + 1):])[::-1] -/
theorem aft_eq {c : Int → Int} {lo hi p : Int} (hl : lo ≤ hi) (f : Fits c lo (hi - 1)) :
    (List.replicate (-(p - lo) - 1).toNat 0 ++ (cut c lo hi).drop (min (if p - lo + 1 > 0 then p - lo + 1 else 0).toNat (hi - lo).toNat)).reverse = rightL c p (hi - 1) := by
  unfold rightL
  congr 1
  rw [show hi - 1 + 1 = hi by omega]
  by_cases h1 : p + 1 ≤ lo
  · have e1 : min (if p - lo + 1 > 0 then p - lo + 1 else 0).toNat (hi - lo).toNat = 0 := by
      rw [if_neg (by omega)]
      omega
    rw [e1, List.drop_zero, cut_cut c h1 hl, cut_zero (a := p + 1) (b := lo) fun x _ q => f.1 x q]
    congr 2
    omega
  · have e0 : (-(p - lo) - 1).toNat = 0 := by omega
    rw [if_pos (by omega), e0]
    by_cases h2 : p + 1 ≤ hi
    · have e1 : min (p - lo + 1).toNat (hi - lo).toNat = (p - lo + 1).toNat := by omega
      rw [e1, cut_drop c lo hi _ (by omega), show lo + (((p - lo + 1).toNat : Nat) : Int) = p + 1 by omega]
      rfl
    · have e1 : min (p - lo + 1).toNat (hi - lo).toNat = (hi - lo).toNat := by omega
      rw [e1, cut_drop c lo hi _ (by omega), cut_nil c (by omega), cut_nil c (by omega)]
      rfl
theorem bef_v {c : Int → Int} {lo hi p : Int} (hl : lo ≤ hi) (f : Fits c lo (hi - 1)) :
    cutV ((cut c lo hi).map V.int) none (some (if p - lo > 0 then p - lo else 0)) ++ List.replicate (p - lo - (((cut c lo hi).map V.int).length : Nat)).toNat (V.int 0) = (leftL c lo p).map V.int := by
  have h0 : ¬ (if p - lo > 0 then p - lo else 0) < 0 := by split <;> omega
  unfold cutV
  show List.take ((if (if p - lo > 0 then p - lo else 0) < 0 then _ else min (if p - lo > 0 then p - lo else 0).toNat ((cut c lo hi).map V.int).length) - 0) (List.drop 0 ((cut c lo hi).map V.int)) ++ _ = _
  rw [if_neg h0, List.length_map, cut_len, List.drop_zero, Nat.sub_zero, ← List.map_take, ← bef_eq (p := p) hl f, List.map_append, List.map_replicate, show (((hi - lo).toNat : Nat) : Int) = hi - lo by omega]
theorem aft_v {c : Int → Int} {lo hi p : Int} (hl : lo ≤ hi) (f : Fits c lo (hi - 1)) :
    (List.replicate (-(p - lo) - 1).toNat (V.int 0) ++ cutV ((cut c lo hi).map V.int) (some (if p - lo + 1 > 0 then p - lo + 1 else 0)) none).reverse = (rightL c p (hi - 1)).map V.int := by
  have h0 : ¬ (if p - lo + 1 > 0 then p - lo + 1 else 0) < 0 := by split <;> omega
  unfold cutV
  show (_ ++ List.take (((cut c lo hi).map V.int).length - (if (if p - lo + 1 > 0 then p - lo + 1 else 0) < 0 then _ else min (if p - lo + 1 > 0 then p - lo + 1 else 0).toNat ((cut c lo hi).map V.int).length)) (List.drop (if (if p - lo + 1 > 0 then p - lo + 1 else 0) < 0 then _ else min (if p - lo + 1 > 0 then p - lo + 1 else 0).toNat ((cut c lo hi).map V.int).length) ((cut c lo hi).map V.int))).reverse = _
  rw [if_neg h0, List.length_map, cut_len, List.take_of_length_le (by rw [List.length_drop, List.length_map, cut_len]; omega), ← List.map_drop, ← aft_eq (p := p) hl f, List.map_reverse, List.map_append, List.map_replicate]
@[irreducible] def tSym (K : PySem.W.Frag) : TE := tIf (tTest (tChain (rI0 fun i j => .bl (decide (i ≤ j))) (rI0 fun i j => .bl (decide (i < j))) (tC (.int 0)) (tVar 12) (tCB (rLenK K) (tCons (tVar 11) tNil)))) (tOp (rIxT K) (tVar 11) (tVar 12)) (tC (.int 0))
theorem symR {σ : L2.St} {H : Hp} {Q : VK} {y : Addr} {c : Int → Int} {lo hi p : Int} (h11 : σ[11]? = some (some (.ref y))) (h12 : σ[12]? = some (some (.int (p - lo)))) (hY : H y = some (.tup ((cut c lo hi).map V.int))) (hl : lo ≤ hi) (f : Fits c lo (hi - 1)) (k : Q (.int (c p)) H) : tSym K σ H Q := by
  unfold tSym
  refine ⟨_, h12, _, _, rfl, rfl, _, rfl, ?_⟩
  by_cases h1 : 0 ≤ p - lo
  · refine iteD h1 ⟨_, h11, y, _, rfl, .inr (SqT.of hY), _, _, rfl, rfl, _, rfl, ?_⟩
    rw [List.length_map, cut_len]
    by_cases h2 : p - lo < (((hi - lo).toNat : Nat) : Int)
    · refine iteD h2 ⟨_, h11, _, h12, y, _, _, .int (c p), rfl, rfl, SqT.of hY, atI_lt h1 ?_, k⟩
      rw [List.getElem?_map, List.getElem?_eq_getElem (by rw [cut_len]; omega), cut_get, show lo + (((p - lo).toNat : Nat) : Int) = p by omega]
      rfl
    · refine iteDN h2 ?_
      have e : c p = 0 := f.2 p (by omega)
      rw [e] at k
      exact k
  · refine iteDN h1 ⟨_, rfl, iteF ?_⟩
    have e : c p = 0 := f.1 p (by omega)
    rw [e] at k
    exact k
/-! ### reads -/
def spReads : Sp := fun vs H Q _ => ∃ (a v cf y l r e0 e1 me : Addr) (m : MchT) (ns k : Nat) (A : Bool → AutT) (E : Bool → List Ed) (M : List El) (s p lo hi : Int) (c : Int → Int), vs = [.ref a, .ref v, .ref cf] ∧ CSet H v l r e0 e1 me A E M ∧ Good A m ns k E M ∧
  H cf = some (.tup [.int s, .int p, .int lo, .ref y]) ∧ TN H y (cut c lo hi) ∧ lo ≤ hi ∧ Fits c lo (hi - 1) ∧ (∀ x, Lt k (c x)) ∧ -400 ≤ lo ∧ hi ≤ 400 ∧ -400 ≤ p ∧ p ≤ 400 ∧
  ∀ z fnd b H', Same H H' → H' z = some (.tup [.ref fnd, .bl b]) → (b = true ↔ Bel A E M s p c lo (hi - 1)) → Q (.ref z) H'
abbrev nReads : List Str := ["machine", "closed_set", "configuration", "left", "right", "left_edges", "right_edges", "members", "state", "place", "first", "cells", "middle", "before", "symbol", "behind", "l", "left_used", "r", "right_used", "found", "belongs", "edge"]
theorem scReads : FnScope nReads ["machine", "closed_set", "configuration"] (defScope (top 16)) := ⟨rfl, rfl, rfl, by decide +kernel, rfl, by decide +kernel, by decide +kernel⟩
theorem ok_reads {f fR : Addr} {fd fdR : FuncData} (F : FnP K "reads" "reads" (top 16) f fd) (G : Gx mg) (FR : FnP K "read" "read" (top 15) fR fdR) (gR : mg "read" = some (.ref fR)) : FnOk P w K mg base CX0 2 f fd ["machine", "closed_set", "configuration"] spReads := by
  have GR : FnOk P w K mg base CX0 1 fR fdR ["automaton", "symbols"] spRead := ok_read FR G
  have bR : Binds K fdR ["automaton", "symbols"] [] := FR.bindsN fun _ _ _ _ _ _ us hl => match us, hl with | [_, _], _ => rfl
  refine F.ok scReads (fun vs H Q E h => ?_) (fun cdv A' outer s' H vs Q E' hr h => ?_)
  · obtain ⟨a, v, cf, y, l, r, e0, e1, me, m, ns, k, A, E, M, s, p, lo, hi, c, rfl, _⟩ := h
    rfl
  · obtain ⟨a, v, cf, y, l, r, e0, e1, me, m, ns, k, A, E, M, s, p, lo, hi, c, rfl, cs, g, hcf, hY, hlh, hf, hck, b1, b2, b3, b4, q⟩ := h
    have R := g.right
    have hu0 : (A'.deeper (envOfC "reads" (defScope (top 16)) s'.heap.objs.size f cdv)).units + 65 < cLine := by have := hr.un; omega
    refine ⟨_, pss_cons (ps_asg (pv 1) (pg_tup rfl (pgs_cons (pg_name (i := 3) scReads.nd rfl (Or.inl rfl)) (pgs_cons (pg_name (i := 4) scReads.nd rfl (Or.inl rfl)) (pgs_cons (pg_name (i := 5) scReads.nd rfl (Or.inr rfl)) (pgs_cons (pg_name (i := 6) scReads.nd rfl (Or.inr rfl)) (pgs_cons (pg_name (i := 7) scReads.nd rfl (Or.inl rfl)) pgs_nil)))))))
      (pss_cons (ps_asg (pv 2) (pg_tup rfl (pgs_cons (pg_name (i := 8) scReads.nd rfl (Or.inl rfl)) (pgs_cons (pg_name (i := 9) scReads.nd rfl (Or.inl rfl)) (pgs_cons (pg_name (i := 10) scReads.nd rfl (Or.inl rfl)) (pgs_cons (pg_name (i := 11) scReads.nd rfl (Or.inl rfl)) pgs_nil))))))
      (pss_cons (ps_set (i := 12) scReads.nd rfl (Or.inl rfl) (pe_op op_sub (pv 9) (pv 10)))
      (pss_cons (ps_set (i := 13) scReads.nd rfl (Or.inl rfl) (pe_op op_catW (pe_slice sl_W (pv 11) po_none (po_some (pe_callB (call_max2 rfl) (by rfl) G.max (by decide +kernel) (pa_cons pe_int (pa_cons (pv 12) pa_nil)))))
          (pe_op op_repW (pe_tup (pa_cons pe_int pa_nil)) (pe_op op_sub (pv 12) (pe_callB (len_K (K := K) rfl) (by rfl) G.len PySem.boot_len (pa_cons (pv 11) pa_nil))))))
      (pss_cons (ps_set (i := 14) scReads.nd rfl (Or.inl rfl) (show PE _ _ (tSym K) from by
            unfold tSym
            exact pe_ifExp (pt_chain op_le op_lt pe_int (pv 12) (pe_callB (len_K (K := K) rfl) (by rfl) G.len PySem.boot_len (pa_cons (pv 11) pa_nil))) (pe_ix (ixT_K (K := K) rfl) (pv 11) (pv 12) (fun _ _ => rfl)) pe_int))
      (pss_cons (ps_set (i := 15) scReads.nd rfl (Or.inl rfl) (pe_op op_catW (pe_op op_repW (pe_tup (pa_cons pe_int pa_nil)) (pe_op op_sub (pe_un un_neg (pv 12)) pe_int))
          (pe_slice sl_W (pv 11) (po_some (pe_callB (call_max2 rfl) (by rfl) G.max (by decide +kernel) (pa_cons pe_int (pa_cons (pe_op op_add (pv 12) pe_int) pa_nil)))) po_none)))
      (pss_cons (ps_asg (pe_call GR hr (by rfl) gR FR.kp bR .nil pass0 (pa_cons (pv 3) (pa_cons (pv 13) pa_nil))) (pg_tup rfl (pgs_cons (pg_name (i := 16) scReads.nd rfl (Or.inl rfl)) (pgs_cons (pg_name (i := 17) scReads.nd rfl (Or.inl rfl)) pgs_nil))))
      (pss_cons (ps_asg (pe_call GR hr (by rfl) gR FR.kp bR .nil pass0 (pa_cons (pv 4) (pa_cons (pe_backT (pv 15)) pa_nil))) (pg_tup rfl (pgs_cons (pg_name (i := 18) scReads.nd rfl (Or.inl rfl)) (pgs_cons (pg_name (i := 19) scReads.nd rfl (Or.inl rfl)) pgs_nil))))
      (pss_cons (ps_set (i := 20) scReads.nd rfl (Or.inl rfl) (pe_tup (pa_cons (pv 16) (pa_cons (pv 8) (pa_cons (pv 14) (pa_cons (pv 18) pa_nil))))))
      (Evl.pss_cut (ps_set (i := 21) scReads.nd rfl (Or.inl rfl) (pe_and
          (show PE _ _ (tAllIn K 17 22 5 [22]) from by
            unfold tAllIn
            exact pe_callB (cr_all rfl) (by rfl) G.all (by decide +kernel) (pa_cons (pe_lc (own := [("edge", 22)]) (g := gName 22) (tt := tYes) rfl scReads.nd (pi_list (pv 17)) (blkOk_by (N := nReads) (sc := defScope (top 16)) (by decide +kernel)) (fun _ _ _ _ _ => pg_name (i := 22) scReads.nd rfl (Or.inl rfl)) (fun _ _ _ _ _ => pts_nil)
              (fun _ _ _ _ _ => pe_cmpR (op_inT hu0) (pv 22) (pv 5) (by rfl))) pa_nil))
          (pe_one (show PE _ _ (tAllIn K 19 22 6 [22]) from by
            unfold tAllIn
            exact pe_callB (cr_all rfl) (by rfl) G.all (by decide +kernel) (pa_cons (pe_lc (own := [("edge", 22)]) (g := gName 22) (tt := tYes) rfl scReads.nd (pi_list (pv 19)) (blkOk_by (N := nReads) (sc := defScope (top 16)) (by decide +kernel)) (fun _ _ _ _ _ => pg_name (i := 22) scReads.nd rfl (Or.inl rfl)) (fun _ _ _ _ _ => pts_nil)
              (fun _ _ _ _ _ => pe_cmpR (op_inT hu0) (pv 22) (pv 6) (by rfl))) pa_nil)))))
      (pss_one (ps_ret (pe_tup (pa_cons (pv 20) (pa_cons (pe_and (pv 21) (pe_one (pe_cmpR (op_inT hu0) (pv 20) (pv 7) (by rfl)))) pa_nil)))))))))))))), ?_⟩
    have hcl := cut_len c lo hi
    rw [show L2.start nReads [V.ref a, V.ref v, V.ref cf] = [some (V.ref a), some (V.ref v), some (V.ref cf), none, none, none, none, none, none, none, none, none, none, none, none, none, none, none, none, none, none, none, none] from rfl]
    refine ⟨_, rfl, v, _, rfl, SqT.of cs.tup, rfl, _, _, rfl, _, _, rfl, _, _, rfl, _, _, rfl, _, _, rfl, rfl, ?_⟩
    simp only [List.set_cons_zero, List.set_cons_succ]
    refine ⟨_, rfl, cf, _, rfl, SqT.of hcf, rfl, _, _, rfl, _, _, rfl, _, _, rfl, _, _, rfl, rfl, ?_⟩
    simp only [List.set_cons_zero, List.set_cons_succ]
    refine ⟨_, rfl, _, rfl, _, _, rfl, rfl, ?_⟩
    simp only [List.set_cons_zero, List.set_cons_succ]
    -- before
    refine ⟨_, rfl, _, rfl, _, _, rfl, _, rfl, y, _, rfl, hY, fun q1 H1 s1 h1 => ?_⟩
    refine ⟨sz1000 (by show 1 ≤ 100000; decide), fun q2 n2 => ?_⟩
    have s2 : Same H1 (upd H1 q2 (.tup [.int 0])) := Same.new n2
    refine ⟨_, rfl, _, rfl, y, _, rfl, .inr (SqT.of (s2 _ _ (s1 _ _ hY))), _, _, rfl, rfl, ?_⟩
    refine ⟨q2, _, _, rfl, rfl, upd_same, by rw [List.length_map, hcl]; omega, by rw [List.length_map, hcl]; omega, fun q3 H3 s3 h3 => ?_⟩
    refine ⟨q1, q3, _, _, rfl, rfl, s3 _ _ (s2 _ _ h1), h3, ?_, fun q4 H4 s4 h4 => ?_⟩
    · rw [List.length_replicate]
      unfold cutV
      rw [List.length_take, List.length_drop, List.length_map, hcl]
      omega
    rw [bef_v hlh hf] at h4
    have z4 : Same H H4 := s1.trans (s2.trans (s3.trans s4))
    clear s4 h3 s3 s2 n2 h1 s1
    have hY4 : H4 y = some (.tup ((cut c lo hi).map V.int)) := z4 _ _ hY
    simp only [List.set_cons_zero, List.set_cons_succ]
    -- symbol
    refine symR (by rfl) (by rfl) hY4 hlh hf ?_
    simp only [List.set_cons_zero, List.set_cons_succ]
    -- behind
    refine ⟨sz1000 (by show 1 ≤ 100000; decide), fun q5 n5 => ?_⟩
    have s5 : Same H4 (upd H4 q5 (.tup [.int 0])) := Same.new n5
    refine ⟨_, rfl, _, rfl, _, _, rfl, rfl, q5, _, _, rfl, rfl, upd_same, by omega, by omega, fun q6 H6 s6 h6 => ?_⟩
    have hY6 := s6 _ _ (s5 _ _ hY4)
    refine ⟨_, rfl, _, rfl, _, _, rfl, rfl, _, _, rfl, _, rfl, y, _, rfl, hY6, fun q7 H7 s7 h7 => ?_⟩
    refine ⟨q6, q7, _, _, rfl, rfl, s7 _ _ h6, h7, ?_, fun q8 H8 s8 h8 => ?_⟩
    · rw [List.length_replicate]
      unfold cutV
      rw [List.length_take, List.length_drop, List.length_map, hcl]
      omega
    have z8 : Same H4 H8 := s5.trans (s6.trans (s7.trans s8))
    have h4' := z8 _ _ h4
    have cs8 := cs.keep (TX.same (z4.trans z8))
    clear s8 h7 s7 hY6 h6 s6 s5 n5
    -- l, left_used
    have lenL : (leftL c lo p).length ≤ 2000 := by
      unfold leftL
      rw [cut_len]
      omega
    have lenR : (rightL c p (hi - 1)).length ≤ 2000 := by
      unfold rightL
      rw [List.length_reverse, cut_len]
      omega
    have rgL : ∀ x ∈ leftL c lo p, Lt k x := fun x hx => by
      obtain ⟨i, _, rfl⟩ := List.mem_map.mp hx
      exact hck _
    have rgR : ∀ x ∈ rightL c p (hi - 1), Lt k x := fun x hx => by
      obtain ⟨i, _, rfl⟩ := List.mem_map.mp (List.mem_reverse.mp hx)
      exact hck _
    simp only [List.set_cons_zero, List.set_cons_succ]
    refine ⟨_, rfl, _, rfl, l, q4, A false, k, leftL c lo p, rfl, cs8.l, R.aut false, h4', rgL, lenL, fun q9 u9 H9 bs9 s9 t9 u9' v9 => ?_⟩
    refine ⟨q9, _, rfl, SqT.of t9, rfl, _, _, rfl, _, _, rfl, rfl, ?_⟩
    have cs9 := cs8.keep (TX.same s9)
    simp only [List.set_cons_zero, List.set_cons_succ]
    refine ⟨_, rfl, _, rfl, q8, _, rfl, SqT.of (s9 _ _ h8), fun qa na => ?_⟩
    rw [aft_v hlh hf]
    have sa : Same H9 (upd H9 qa (.tup ((rightL c p (hi - 1)).map V.int))) := Same.new na
    refine ⟨r, qa, A true, k, rightL c p (hi - 1), rfl, (cs9.keep (TX.same sa)).r, R.aut true, upd_same, rgR, lenR, fun qb ub Hb bsb sb tb ub' vb => ?_⟩
    refine ⟨qb, _, rfl, SqT.of tb, rfl, _, _, rfl, _, _, rfl, rfl, ?_⟩
    have csb := cs9.keep (TX.same (sa.trans sb))
    simp only [List.set_cons_zero, List.set_cons_succ]
    -- found
    refine ⟨_, rfl, _, rfl, _, rfl, _, rfl, sz1000 (by show 4 ≤ 100000; decide), fun pf nf => ?_⟩
    have sf : Same Hb (upd Hb pf (.tup [.int (rd (A false) 0 (leftL c lo p)), .int s, .int (c p), .int (rd (A true) 0 (rightL c p (hi - 1)))])) := Same.new nf
    have fnd : TN (upd Hb pf (.tup [.int (rd (A false) 0 (leftL c lo p)), .int s, .int (c p), .int (rd (A true) 0 (rightL c p (hi - 1)))])) pf (elL (rd (A false) 0 (leftL c lo p), s, c p, rd (A true) 0 (rightL c p (hi - 1)))) := upd_same
    have csf := csb.keep (TX.same sf)
    have uL := (sa.trans (sb.trans sf)) _ _ u9'
    have vL := Paired.mono (fun _ _ z => TN.keep (TX.same (sa.trans (sb.trans sf))) z) v9
    have uR := sf _ _ ub'
    have vR := Paired.mono (fun _ _ z => TN.keep (TX.same sf) z) vb
    have zf := (z4.trans z8).trans (s9.trans (sa.trans (sb.trans sf)))
    generalize upd Hb pf (.tup [.int (rd (A false) 0 (leftL c lo p)), .int s, .int (c p), .int (rd (A true) 0 (rightL c p (hi - 1)))]) = Z at fnd csf uL vL uR vR zf ⊢
    obtain ⟨asL, l1, l2⟩ := csf.e0
    obtain ⟨asR, r1, r2⟩ := csf.e1
    have used : ∀ (b : Bool) (xs : List Int), (∀ r ∈ ((0, 0) :: trail (A b) 0 xs).map edL, r ∈ (E b).map edL) ↔ okE (A b) (E b) 0 xs := fun b xs => by
      rw [trail_ok]
      constructor
      · intro h e he
        obtain ⟨e2, h2, h3⟩ := List.mem_map.mp (h (edL e) (in_map (List.mem_cons_of_mem _ he)))
        rw [← edL_inj h3]
        exact h2
      · intro h r hr
        obtain ⟨e, he, rfl⟩ := List.mem_map.mp hr
        rcases List.mem_cons.mp he with z | z
        · rw [z]
          exact in_map (R.e0 b)
        · exact in_map (h e z)
    simp only [List.set_cons_zero, List.set_cons_succ]
    refine ⟨fun σ' H' => Same Z H' ∧ ∃ bb : Bool, σ' = [some (.ref a), some (.ref v), some (.ref cf), some (.ref l), some (.ref r), some (.ref e0), some (.ref e1), some (.ref me), some (.int s), some (.int p), some (.int lo), some (.ref y), some (.int (p - lo)), some (.ref q4), some (.int (c p)), some (.ref q8),
      some (.int (rd (A false) 0 (leftL c lo p))), some (.ref u9), some (.int (rd (A true) 0 (rightL c p (hi - 1)))), some (.ref ub), some (.ref pf), some (.bl bb), none] ∧
      (bb = true ↔ okE (A false) (E false) 0 (leftL c lo p) ∧ okE (A true) (E true) 0 (rightL c p (hi - 1))), ?_, ?_⟩
    · refine allIn (by rfl) (by intro _; rfl) (by intro _; rfl) (by intro _; rfl) uL vL l1 l2 (by rw [List.length_map, List.length_cons, trail_len]; omega) fun b1 H1 s1 e1' => ⟨_, rfl, ?_⟩
      rw [used] at e1'
      cases b1 with
      | false =>
        refine iteF ⟨s1, false, rfl, ?_⟩
        constructor
        · intro h; cases h
        · intro h; exact e1'.mpr h.1
      | true =>
        refine iteT ?_
        refine allIn (by rfl) (by intro _; rfl) (by intro _; rfl) (by intro _; rfl) (s1 _ _ uR) (Paired.mono (fun _ _ z => TN.keep (TX.same s1) z) vR) (s1 _ _ r1) (Paired.mono (fun _ _ z => TN.keep (TX.same s1) z) r2) (by rw [List.length_map, List.length_cons, trail_len]; omega) fun b2 H2 s2 e2' => ?_
        rw [used] at e2'
        refine ⟨s1.trans s2, b2, rfl, ?_⟩
        constructor
        · intro h; exact ⟨e1'.mp rfl, e2'.mp h⟩
        · intro h; exact e2'.mpr h.2
    · rintro σ' H' ⟨t, bb, rfl, hbb⟩
      obtain ⟨asM, m1, m2⟩ := (csf.keep (TX.same t)).me
      refine ⟨_, rfl, _, rfl, _, rfl, ?_⟩
      cases bb with
      | false =>
        refine iteF ⟨sz1000 (by show 2 ≤ 100000; decide), fun z nz => ?_⟩
        refine q z pf false _ (zf.trans (t.trans (Same.new nz))) upd_same ?_
        constructor
        · intro h; cases h
        · intro h; exact hbb.mpr ⟨h.1, h.2.1⟩
      | true =>
        refine iteT ⟨_, rfl, _, rfl, me, pf, asM, _, _, rfl, rfl, m1, m2, TN.keep (TX.same t) fnd, sz1000 (by show 2 ≤ 100000; decide), fun z nz => ?_⟩
        refine q z pf _ _ (zf.trans (t.trans (Same.new nz))) upd_same ?_
        obtain ⟨o1, o2⟩ := hbb.mp rfl
        show decide _ = true ↔ _
        rw [decide_eq_true_iff]
        constructor
        · intro h
          obtain ⟨x, hx, ex⟩ := List.mem_map.mp h
          rw [elL_inj ex] at hx
          exact ⟨o1, o2, hx⟩
        · intro h
          exact in_mapM h.2.2
end
end Tac
namespace Tac
open PySem PySem.Spec PyProof.Rows L2 TacR
section
variable {P : Program} {w : World} {K : PySem.W.Frag} {mg : Str → Option Value} {base : Heap}
/-! ### an object of Closing as it lies in the heap -/
inductive Role where
  | oth | inst | ed (b : Bool) | it (b : Bool) | inl (b : Bool) | ak (b : Bool) | akd (b : Bool) | me | wa
structure Lay where
  p : Addr
  dx : Addr
  mach : Addr
  aut : Addr
  edT : Addr
  inT : Addr
  akT : Addr
  me : Addr
  wa : Addr
  au : Bool → Addr
  ed : Bool → Addr
  it : Bool → Addr
  ak : Bool → Addr
def flds (mach aut edT inT me wa akT : Addr) : List (Str × V) := putF "askers" (.ref akT) (putF "waiting" (.ref wa) (putF "members" (.ref me) (putF "into" (.ref inT) (putF "edges" (.ref edT) (putF "automata" (.ref aut) (putF "machine" (.ref mach) []))))))
theorem fl_machine (a b c d e f g : Addr) : (flds a b c d e f g).lookup ("machine" : Str) = some (.ref a) := by
  unfold flds
  repeat (first | rw [lookup_putF, if_pos rfl] | rw [lookup_putF, if_neg (by decide +kernel)])
theorem fl_automata (a b c d e f g : Addr) : (flds a b c d e f g).lookup ("automata" : Str) = some (.ref b) := by
  unfold flds
  repeat (first | rw [lookup_putF, if_pos rfl] | rw [lookup_putF, if_neg (by decide +kernel)])
theorem fl_edges (a b c d e f g : Addr) : (flds a b c d e f g).lookup ("edges" : Str) = some (.ref c) := by
  unfold flds
  repeat (first | rw [lookup_putF, if_pos rfl] | rw [lookup_putF, if_neg (by decide +kernel)])
theorem fl_into (a b c d e f g : Addr) : (flds a b c d e f g).lookup ("into" : Str) = some (.ref d) := by
  unfold flds
  repeat (first | rw [lookup_putF, if_pos rfl] | rw [lookup_putF, if_neg (by decide +kernel)])
theorem fl_members (a b c d e f g : Addr) : (flds a b c d e f g).lookup ("members" : Str) = some (.ref e) := by
  unfold flds
  repeat (first | rw [lookup_putF, if_pos rfl] | rw [lookup_putF, if_neg (by decide +kernel)])
theorem fl_waiting (a b c d e f g : Addr) : (flds a b c d e f g).lookup ("waiting" : Str) = some (.ref f) := by
  unfold flds
  repeat (first | rw [lookup_putF, if_pos rfl] | rw [lookup_putF, if_neg (by decide +kernel)])
theorem fl_askers (a b c d e f g : Addr) : (flds a b c d e f g).lookup ("askers" : Str) = some (.ref g) := by
  unfold flds
  repeat (first | rw [lookup_putF, if_pos rfl] | rw [lookup_putF, if_neg (by decide +kernel)])
theorem fl_none (a b c d e f g : Addr) {x : Str} (h1 : ¬ x = "machine") (h2 : ¬ x = "automata") (h3 : ¬ x = "edges") (h4 : ¬ x = "into") (h5 : ¬ x = "members") (h6 : ¬ x = "waiting") (h7 : ¬ x = "askers") : (flds a b c d e f g).lookup x = none := by
  unfold flds
  rw [lookup_putF, if_neg h7, lookup_putF, if_neg h6, lookup_putF, if_neg h5, lookup_putF, if_neg h4, lookup_putF, if_neg h3, lookup_putF, if_neg h2, lookup_putF, if_neg h1]
  rfl
def dM (l : List El) : List (List Key × V) := l.map fun x => (kI (elL x), V.bl true)
structure Clo (C : Addr) (A : Bool → AutT) (m : MchT) (L : Lay) (ρ : Addr → Role) (H : Hp) (S : CS) : Prop where
  ins : H L.p = some (.ins C L.dx (flds L.mach L.aut L.edT L.inT L.me L.wa L.akT))
  aut : H L.aut = some (.tup [.ref (L.au false), .ref (L.au true)])
  edT : H L.edT = some (.tup [.ref (L.ed false), .ref (L.ed true)])
  inT : H L.inT = some (.tup [.ref (L.it false), .ref (L.it true)])
  akT : H L.akT = some (.tup [.ref (L.ak false), .ref (L.ak true)])
  mach : TM H L.mach m
  au : ∀ b, T2 H (L.au b) (A b)
  ed : ∀ b, H (L.ed b) = some (.dT (dE (S.e b)))
  it : ∀ b, ∃ ad, MapAt CL H (L.it b) (A b).length (S.i b) ad ∧ ∀ t a, ad t = some a → ρ a = .inl b
  ak : ∀ b, ∃ ad, MapAt CD H (L.ak b) (A b).length (S.a b) ad ∧ ∀ t a, ad t = some a → ρ a = .akd b
  me : H L.me = some (.dT (dM S.mem))
  wa : ∃ ws, H L.wa = some (.lst (ws.map V.ref)) ∧ Paired (TN H) ws (S.wait.map elL)
  rp : ρ L.p = .inst
  rE : ∀ b, ρ (L.ed b) = .ed b
  rI : ∀ b, ρ (L.it b) = .it b
  rK : ∀ b, ρ (L.ak b) = .ak b
  rM : ρ L.me = .me
  rW : ρ L.wa = .wa
/-- what a caller may count on: that which is not the object's stays -/
def Fr (ρ : Addr → Role) (H : Hp) (ρ' : Addr → Role) (H' : Hp) : Prop := ∀ z o, H z = some o → ρ z = .oth → H' z = some o ∧ ρ' z = .oth
theorem Fr.refl (ρ : Addr → Role) (H : Hp) : Fr ρ H ρ H := fun _ _ h r => ⟨h, r⟩
theorem Fr.trans {ρ ρ1 ρ2 : Addr → Role} {H H1 H2 : Hp} (a : Fr ρ H ρ1 H1) (b : Fr ρ1 H1 ρ2 H2) : Fr ρ H ρ2 H2 := fun z o h r => by
  obtain ⟨h1, r1⟩ := a z o h r
  exact b z o h1 r1
theorem Fr.same {ρ : Addr → Role} {H H' : Hp} (s : Same H H') : Fr ρ H ρ H' := fun z o h r => ⟨s z o h, r⟩
/-- all that bears another role than R stays -/
def Kp (ρ : Addr → Role) (R : Role → Prop) (H H' : Hp) : Prop := ∀ z o, H z = some o → ¬ R (ρ z) → H' z = some o
section
variable {C : Addr} {A : Bool → AutT} {m : MchT} {L : Lay} {ρ ρ' : Addr → Role} {H H' : Hp} {S : CS} {R : Role → Prop}
theorem MapAt.kp {D : Hp → Addr → List Ed → Prop} {o0 : HO} (ck : CKeep D o0) {d : Addr} {n : Nat} {f : Int → List Ed} {ad : Int → Option Addr} {r1 r2 : Role} (M : MapAt D H d n f ad) (k : Kp ρ R H H') (tx : TX H H') (h1 : ρ d = r1) (h2 : ∀ t a, ad t = some a → ρ a = r2) (n1 : ¬ R r1) (n2 : ¬ R r2) : MapAt D H' d n f ad := by
  refine M.keep ck (fun b o hb ho => k b o ho ?_) tx
  rcases hb with e | ⟨t, e⟩
  · rw [e, h1]
    exact n1
  · rw [h2 t b e]
    exact n2
theorem Clo.same (c : Clo C A m L ρ H S) (s : Same H H') : Clo C A m L ρ H' S := by
  have tx := TX.same s
  obtain ⟨ws, w1, w2⟩ := c.wa
  refine ⟨s _ _ c.ins, s _ _ c.aut, s _ _ c.edT, s _ _ c.inT, s _ _ c.akT, c.mach.keep tx, fun b => (c.au b).keep tx, fun b => s _ _ (c.ed b), fun b => ?_, fun b => ?_, s _ _ c.me, ⟨ws, s _ _ w1, Paired.mono (fun _ _ z => TN.keep tx z) w2⟩, c.rp, c.rE, c.rI, c.rK, c.rM, c.rW⟩
  · obtain ⟨ad, M, r⟩ := c.it b
    exact ⟨ad, M.same keepCL s, r⟩
  · obtain ⟨ad, M, r⟩ := c.ak b
    exact ⟨ad, M.same keepCD s, r⟩
/-- roles of untracked places may change -/
theorem Clo.role (c : Clo C A m L ρ H S) (h : ∀ z o, H z = some o → ρ' z = ρ z) : Clo C A m L ρ' H S := by
  obtain ⟨ws, w1, w2⟩ := c.wa
  refine ⟨c.ins, c.aut, c.edT, c.inT, c.akT, c.mach, c.au, c.ed, fun b => ?_, fun b => ?_, c.me, c.wa, by rw [h _ _ c.ins]; exact c.rp, fun b => by rw [h _ _ (c.ed b)]; exact c.rE b, fun b => ?_, fun b => ?_, by rw [h _ _ c.me]; exact c.rM, by rw [h _ _ w1]; exact c.rW⟩
  · obtain ⟨ad, M, r⟩ := c.it b
    refine ⟨ad, M, fun t a e => ?_⟩
    obtain ⟨o, ho, _⟩ := keepCL.old (M.som t a e)
    rw [h _ _ ho]
    exact r t a e
  · obtain ⟨ad, M, r⟩ := c.ak b
    refine ⟨ad, M, fun t a e => ?_⟩
    obtain ⟨o, ho, _⟩ := keepCD.old (M.som t a e)
    rw [h _ _ ho]
    exact r t a e
  · obtain ⟨ad, M, r⟩ := c.it b
    obtain ⟨kvs, hk, _⟩ := M.kvs
    rw [h _ _ hk]
    exact c.rI b
  · obtain ⟨ad, M, r⟩ := c.ak b
    obtain ⟨kvs, hk, _⟩ := M.kvs
    rw [h _ _ hk]
    exact c.rK b
/-- a place of a role is written -/
theorem kp_upd {z : Addr} {o : HO} {r : Role} (hz : ρ z = r) : Kp ρ (fun q => q = r) H (upd H z o) := fun c u h n => by
  rw [upd_ne (fun e => n (by rw [e]; exact hz))]
  exact h
theorem fr_upd {z : Addr} {o : HO} {r : Role} (hz : ρ z = r) (hr : r ≠ .oth) : Fr ρ H ρ (upd H z o) := fun c u h n => by
  refine ⟨?_, n⟩
  rw [upd_ne (fun e => hr (by rw [← hz, ← e]; exact n))]
  exact h
theorem Clo.setMe (c : Clo C A m L ρ H S) (l : List El) : Clo C A m L ρ (upd H L.me (.dT (dM l))) { S with mem := l } ∧ TX H (upd H L.me (.dT (dM l))) := by
  have k : Kp ρ (fun q => q = .me) H (upd H L.me (.dT (dM l))) := kp_upd c.rM
  have tx : TX H (upd H L.me (.dT (dM l))) := TX.mut c.me (by intro xs z; cases z)
  obtain ⟨ws, w1, w2⟩ := c.wa
  refine ⟨⟨k _ _ c.ins (by rw [c.rp]; intro z; cases z), tx _ _ c.aut, tx _ _ c.edT, tx _ _ c.inT, tx _ _ c.akT, c.mach.keep tx, fun b => (c.au b).keep tx, fun b => k _ _ (c.ed b) (by rw [c.rE]; intro z; cases z), fun b => ?_, fun b => ?_, upd_same, ⟨ws, k _ _ w1 (by rw [c.rW]; intro z; cases z), Paired.mono (fun _ _ z => TN.keep tx z) w2⟩, c.rp, c.rE, c.rI, c.rK, c.rM, c.rW⟩, tx⟩
  · obtain ⟨ad, M, r⟩ := c.it b
    exact ⟨ad, M.kp keepCL k tx (c.rI b) r (by intro z; cases z) (by intro z; cases z), r⟩
  · obtain ⟨ad, M, r⟩ := c.ak b
    exact ⟨ad, M.kp keepCD k tx (c.rK b) r (by intro z; cases z) (by intro z; cases z), r⟩
theorem Clo.setWa (c : Clo C A m L ρ H S) {ws : List Addr} {l : List El} (h : Paired (TN H) ws (l.map elL)) : Clo C A m L ρ (upd H L.wa (.lst (ws.map V.ref))) { S with wait := l } ∧ TX H (upd H L.wa (.lst (ws.map V.ref))) := by
  have k : Kp ρ (fun q => q = .wa) H (upd H L.wa (.lst (ws.map V.ref))) := kp_upd c.rW
  obtain ⟨ws0, w1, w2⟩ := c.wa
  have tx : TX H (upd H L.wa (.lst (ws.map V.ref))) := TX.mut w1 (by intro xs z; cases z)
  refine ⟨⟨k _ _ c.ins (by rw [c.rp]; intro z; cases z), tx _ _ c.aut, tx _ _ c.edT, tx _ _ c.inT, tx _ _ c.akT, c.mach.keep tx, fun b => (c.au b).keep tx, fun b => k _ _ (c.ed b) (by rw [c.rE]; intro z; cases z), fun b => ?_, fun b => ?_, k _ _ c.me (by rw [c.rM]; intro z; cases z), ⟨ws, upd_same, Paired.mono (fun _ _ z => TN.keep tx z) h⟩, c.rp, c.rE, c.rI, c.rK, c.rM, c.rW⟩, tx⟩
  · obtain ⟨ad, M, r⟩ := c.it b
    exact ⟨ad, M.kp keepCL k tx (c.rI b) r (by intro z; cases z) (by intro z; cases z), r⟩
  · obtain ⟨ad, M, r⟩ := c.ak b
    exact ⟨ad, M.kp keepCD k tx (c.rK b) r (by intro z; cases z) (by intro z; cases z), r⟩
theorem Clo.setEd (c : Clo C A m L ρ H S) (b : Bool) (l : List Ed) : Clo C A m L ρ (upd H (L.ed b) (.dT (dE l))) { S with e := ups S.e b l } ∧ TX H (upd H (L.ed b) (.dT (dE l))) := by
  have k : Kp ρ (fun q => q = .ed b) H (upd H (L.ed b) (.dT (dE l))) := kp_upd (c.rE b)
  have tx : TX H (upd H (L.ed b) (.dT (dE l))) := TX.mut (c.ed b) (by intro xs z; cases z)
  obtain ⟨ws, w1, w2⟩ := c.wa
  refine ⟨⟨k _ _ c.ins (by rw [c.rp]; intro z; cases z), tx _ _ c.aut, tx _ _ c.edT, tx _ _ c.inT, tx _ _ c.akT, c.mach.keep tx, fun b => (c.au b).keep tx, fun d => ?_, fun b => ?_, fun b => ?_, k _ _ c.me (by rw [c.rM]; intro z; cases z), ⟨ws, k _ _ w1 (by rw [c.rW]; intro z; cases z), Paired.mono (fun _ _ z => TN.keep tx z) w2⟩, c.rp, c.rE, c.rI, c.rK, c.rM, c.rW⟩, tx⟩
  · show upd H (L.ed b) (.dT (dE l)) (L.ed d) = some (.dT (dE (ups S.e b l d)))
    by_cases e : d = b
    · rw [e, ups_same, upd_same]
    · rw [ups_ne e]
      exact k _ _ (c.ed d) (by rw [c.rE]; intro z; cases z; exact e rfl)
  · obtain ⟨ad, M, r⟩ := c.it b
    exact ⟨ad, M.kp keepCL k tx (c.rI b) r (by intro z; cases z) (by intro z; cases z), r⟩
  · obtain ⟨ad, M, r⟩ := c.ak b
    exact ⟨ad, M.kp keepCD k tx (c.rK b) r (by intro z; cases z) (by intro z; cases z), r⟩
/-- the dict of a side's lists is changed, new places bear its role -/
theorem Clo.setIt (c : Clo C A m L ρ H S) (b : Bool) {f : Int → List Ed} {ad : Int → Option Addr} (k : Kp ρ (fun q => q = .it b ∨ q = .inl b) H H') (tx : TX H H') (hr : ∀ z o, H z = some o → ρ' z = ρ z) (M : MapAt CL H' (L.it b) (A b).length f ad) (r : ∀ t a, ad t = some a → ρ' a = .inl b) :
    Clo C A m L ρ' H' { S with i := ups S.i b f } := by
  have c' := c.role hr
  obtain ⟨ws, w1, w2⟩ := c.wa
  refine ⟨k _ _ c.ins (by rw [c.rp]; intro z; rcases z with z | z <;> cases z), tx _ _ c.aut, tx _ _ c.edT, tx _ _ c.inT, tx _ _ c.akT, c.mach.keep tx, fun b => (c.au b).keep tx, fun d => k _ _ (c.ed d) (by rw [c.rE]; intro z; rcases z with z | z <;> cases z), fun d => ?_, fun d => ?_, k _ _ c.me (by rw [c.rM]; intro z; rcases z with z | z <;> cases z), ⟨ws, k _ _ w1 (by rw [c.rW]; intro z; rcases z with z | z <;> cases z), Paired.mono (fun _ _ z => TN.keep tx z) w2⟩, c'.rp, c'.rE, c'.rI, c'.rK, c'.rM, c'.rW⟩
  · show ∃ ad, MapAt CL H' (L.it d) (A d).length (ups S.i b f d) ad ∧ _
    by_cases e : d = b
    · subst e
      rw [ups_same]
      exact ⟨ad, M, r⟩
    · rw [ups_ne e]
      obtain ⟨ad2, M2, r2⟩ := c.it d
      obtain ⟨ad3, M3, r3⟩ := c'.it d
      refine ⟨ad2, M2.kp keepCL k tx (c.rI d) r2 (by intro z; rcases z with z | z <;> cases z; exact e rfl) (by intro z; rcases z with z | z <;> cases z; exact e rfl), fun t a h => ?_⟩
      obtain ⟨o, ho, _⟩ := keepCL.old (M2.som t a h)
      rw [hr _ _ ho]
      exact r2 t a h
  · obtain ⟨ad2, M2, r2⟩ := c.ak d
    refine ⟨ad2, M2.kp keepCD k tx (c.rK d) r2 (by intro z; rcases z with z | z <;> cases z) (by intro z; rcases z with z | z <;> cases z), fun t a h => ?_⟩
    obtain ⟨o, ho, _⟩ := keepCD.old (M2.som t a h)
    rw [hr _ _ ho]
    exact r2 t a h
theorem Clo.setAk (c : Clo C A m L ρ H S) (b : Bool) {f : Int → List Ed} {ad : Int → Option Addr} (k : Kp ρ (fun q => q = .ak b ∨ q = .akd b) H H') (tx : TX H H') (hr : ∀ z o, H z = some o → ρ' z = ρ z) (M : MapAt CD H' (L.ak b) (A b).length f ad) (r : ∀ t a, ad t = some a → ρ' a = .akd b) :
    Clo C A m L ρ' H' { S with a := ups S.a b f } := by
  have c' := c.role hr
  obtain ⟨ws, w1, w2⟩ := c.wa
  refine ⟨k _ _ c.ins (by rw [c.rp]; intro z; rcases z with z | z <;> cases z), tx _ _ c.aut, tx _ _ c.edT, tx _ _ c.inT, tx _ _ c.akT, c.mach.keep tx, fun b => (c.au b).keep tx, fun d => k _ _ (c.ed d) (by rw [c.rE]; intro z; rcases z with z | z <;> cases z), fun d => ?_, fun d => ?_, k _ _ c.me (by rw [c.rM]; intro z; rcases z with z | z <;> cases z), ⟨ws, k _ _ w1 (by rw [c.rW]; intro z; rcases z with z | z <;> cases z), Paired.mono (fun _ _ z => TN.keep tx z) w2⟩, c'.rp, c'.rE, c'.rI, c'.rK, c'.rM, c'.rW⟩
  · obtain ⟨ad2, M2, r2⟩ := c.it d
    refine ⟨ad2, M2.kp keepCL k tx (c.rI d) r2 (by intro z; rcases z with z | z <;> cases z) (by intro z; rcases z with z | z <;> cases z), fun t a h => ?_⟩
    obtain ⟨o, ho, _⟩ := keepCL.old (M2.som t a h)
    rw [hr _ _ ho]
    exact r2 t a h
  · show ∃ ad, MapAt CD H' (L.ak d) (A d).length (ups S.a b f d) ad ∧ _
    by_cases e : d = b
    · subst e
      rw [ups_same]
      exact ⟨ad, M, r⟩
    · rw [ups_ne e]
      obtain ⟨ad2, M2, r2⟩ := c.ak d
      refine ⟨ad2, M2.kp keepCD k tx (c.rK d) r2 (by intro z; rcases z with z | z <;> cases z; exact e rfl) (by intro z; rcases z with z | z <;> cases z; exact e rfl), fun t a h => ?_⟩
      obtain ⟨o, ho, _⟩ := keepCD.old (M2.som t a h)
      rw [hr _ _ ho]
      exact r2 t a h
end
end
end Tac
namespace Tac
open PySem PySem.Spec PyProof.Rows L2 TacR
section
variable {P : Program} {w : World} {K : PySem.W.Frag} {mg : Str → Option Value} {base : Heap}
/-! ### look-ups in dicts whose keys are rows -/
theorem val_key {α : Type} [DecidableEq α] {g : α → List Int} (hg : ∀ a b, g a = g b → a = b) (x : α) : ∀ l : List α, valV (l.map fun y => (kI (g y), V.bl true)) (kI (g x)) = if x ∈ l then some (V.bl true) else none
  | [] => rfl
  | a :: r => by
    rw [List.map_cons]
    by_cases h : a = x
    · subst h
      rw [valV_pos rfl, if_pos (List.mem_cons_self ..)]
    · rw [valV_neg (fun e => h (hg a x (kI_inj e))), val_key hg x r]
      by_cases h2 : x ∈ r
      · rw [if_pos h2, if_pos (List.mem_cons_of_mem _ h2)]
      · rw [if_neg h2, if_neg]
        intro z
        rcases List.mem_cons.mp z with z | z
        · exact h z.symm
        · exact h2 z
theorem val_dM (l : List El) (x : El) : valV (dM l) (kI (elL x)) = if x ∈ l then some (V.bl true) else none := by
  refine (val_key (fun _ _ => elL_inj) x l).trans ?_
  by_cases h : x ∈ l
  · rw [if_pos h, if_pos h]
  · rw [if_neg h, if_neg h]
theorem val_dE (l : List Ed) (x : Ed) : valV (dE l) (kI (edL x)) = if x ∈ l then some (V.bl true) else none := by
  refine (val_key (fun _ _ => edL_inj) x l).trans ?_
  by_cases h : x ∈ l
  · rw [if_pos h, if_pos h]
  · rw [if_neg h, if_neg h]
theorem put_dM {l : List El} {x : El} (h : x ∉ l) : putK (dM l) (kI (elL x)) (.bl true) = dM (l ++ [x]) := by
  rw [putK_new _ (by rw [val_dM, if_neg h])]
  unfold dM
  rw [List.map_append]
  rfl
theorem put_dE {l : List Ed} {x : Ed} (h : x ∉ l) : putK (dE l) (kI (edL x)) (.bl true) = dE (l ++ [x]) := by
  rw [putK_new _ (by rw [val_dE, if_neg h])]
  unfold dE
  rw [List.map_append]
  rfl
/-- the class as the top has made it -/
structure Tx (K : PySem.W.Frag) (C : Addr) : Prop where
  cl : Cls K C
  nMach : NoAttr K C "machine"
  nAut : NoAttr K C "automata"
  nEd : NoAttr K C "edges"
  nIn : NoAttr K C "into"
  nMe : NoAttr K C "members"
  nWa : NoAttr K C "waiting"
  nAk : NoAttr K C "askers"
def Sz (S : CS) : Prop := S.mem.length ≤ 2000 ∧ S.wait.length ≤ 2000
theorem mul_le_of {a b c d : Nat} (h : a ≤ c) (g : b ≤ d) : a * b ≤ c * d := Nat.mul_le_mul h g
theorem Rng.mem1296 {A : Bool → AutT} {m : MchT} {ns k : Nat} {S : CS} (R : Rng A ns k S) (hA : ∀ b, Aut (A b) k) (hM : Mch m ns k) : S.mem.length ≤ 1296 := by
  have h1 := R.memLen
  have h2 := mul_le_of (mul_le_of (hA false).le hM.sLe) (mul_le_of hM.kHi (hA true).le)
  omega
theorem Rng.sz {A : Bool → AutT} {m : MchT} {ns k : Nat} {S : CS} (R : Rng A ns k S) (hA : ∀ b, Aut (A b) k) (hM : Mch m ns k) : Sz S := by
  have h1 := R.mem1296 hA hM
  have h2 := R.waitLen
  exact ⟨by omega, by omega⟩
theorem refs_snoc (ws : List Addr) (e : Addr) : ws.map V.ref ++ [V.ref e] = (ws ++ [e]).map V.ref := by rw [List.map_append]; rfl
def sd (b : Bool) : Int := if b = true then 1 else 0
variable {C : Addr} {A : Bool → AutT} {m : MchT} {ns k : Nat}
/-! ### add_element -/
def spAddEl (C : Addr) (A : Bool → AutT) (m : MchT) : Sp := fun vs H Q _ => ∃ (L : Lay) (ρ : Addr → Role) (S : CS) (e : Addr) (x : El), vs = [.ref L.p, .ref e] ∧ Clo C A m L ρ H S ∧ Sz S ∧ TN H e (elL x) ∧
  ∀ ρ' H', TX H H' → Clo C A m L ρ' H' (S.addEl x) → Fr ρ H ρ' H' → Q .non H'
theorem scAddEl : FnScope ["self", "element"] ["self", "element"] (defScope (inClass (top 13) 1)) := ⟨rfl, rfl, rfl, by decide +kernel, rfl, by decide +kernel, by decide +kernel⟩
theorem ok_addEl {f : Addr} {fd : FuncData} (F : FnP K "add_element" "Closing.add_element" (inClass (top 13) 1) f fd) (T : Tx K C) : FnOk P w K mg base CX0 1 f fd ["self", "element"] (spAddEl C A m) := by
  refine F.ok scAddEl (fun vs H Q E h => ?_) (fun cdv A' outer s H vs Q E' hr h => ?_)
  · obtain ⟨L, ρ, S, e, x, rfl, _⟩ := h
    rfl
  · obtain ⟨L, ρ, S, e, x, rfl, c, sz, hx, q⟩ := h
    have hu := hu_of hr
    refine ⟨_, pss_one (ps_if (pt_cmp (pc_dnotin hu (pv 1) (pe_fld (pv 0) rfl)))
      (pss_cons (ps_dput hu (pe_fld (pv 0) rfl) (pv 1) pe_bl rfl)
      (pss_one (ps_expr (pe_bm PySem.F.plainAttrs_list PySem.F.slot_list_append PySem.F.type_list_append mt_append (pe_fld (pv 0) rfl) (pa_cons (pv 1) pa_nil))))) pss_nil), ?_⟩
    refine ⟨_, rfl, _, rfl, L.p, C, L.dx, _, _, rfl, c.ins, T.cl, T.nMe, fl_members .., L.me, _, rfl, DGet.t c.me (TN.key hx), _, rfl, ?_⟩
    rw [val_dM]
    by_cases h : x ∈ S.mem
    · rw [if_pos h]
      have ee : S.addEl x = S := if_pos h
      rw [ee] at q
      exact iteF (q ρ H (TX.refl H) c (Fr.refl ρ H))
    · rw [if_neg h]
      have ee : S.addEl x = { S with mem := S.mem ++ [x], wait := S.wait ++ [x] } := if_neg h
      rw [ee] at q
      refine iteT ⟨_, rfl, L.p, C, L.dx, _, _, rfl, c.ins, T.cl, T.nMe, fl_members .., ?_⟩
      refine ⟨_, rfl, L.me, _, rfl, DPut.t c.me (TN.key hx) (by unfold dM; rw [List.length_map]; exact szlt (by have := sz.1; omega)), ?_⟩
      rw [put_dM h]
      obtain ⟨c1, t1⟩ := c.setMe (S.mem ++ [x])
      obtain ⟨ws, w1, w2⟩ := c1.wa
      refine ⟨_, rfl, L.p, C, L.dx, _, _, rfl, c1.ins, T.cl, T.nWa, fl_waiting .., .inl ⟨rfl, _, SqL.of w1⟩, _, rfl, L.wa, _, _, rfl, rfl, w1, szlt ?_, ?_⟩
      · rw [List.length_map, Paired.length w2, List.length_map]
        have := sz.2
        show S.wait.length < 100000
        omega
      · rw [refs_snoc]
        obtain ⟨c2, t2⟩ := c1.setWa (ws := ws ++ [e]) (l := S.wait ++ [x]) (by rw [List.map_append]; exact paired_snoc w2 (TN.keep t1 hx))
        exact q ρ _ (t1.trans t2) c2 ((fr_upd c.rM (by intro z; cases z)).trans (fr_upd c.rW (by intro z; cases z)))
/-! ### demand -/
def spDem (C : Addr) (A : Bool → AutT) (m : MchT) : Sp := fun vs H Q _ => ∃ (L : Lay) (ρ : Addr → Role) (S : CS) (b : Bool) (n f q x : Int), vs = [.ref L.p, .int (sd b), .int n, .int f, .int q, .int x] ∧ Clo C A m L ρ H S ∧ Sz S ∧
  ∀ ρ' H', TX H H' → Clo C A m L ρ' H' (S.addEl (dem b n f q x)) → Fr ρ H ρ' H' → Q .non H'
theorem scDem : FnScope ["self", "side", "number", "following", "row", "symbol"] ["self", "side", "number", "following", "row", "symbol"] (defScope (inClass (top 13) 3)) := ⟨rfl, rfl, rfl, by decide +kernel, rfl, by decide +kernel, by decide +kernel⟩
theorem ok_dem {f fE : Addr} {fd fdE : FuncData} (F : FnP K "demand" "Closing.demand" (inClass (top 13) 3) f fd) (T : Tx K C) (FE : FnP K "add_element" "Closing.add_element" (inClass (top 13) 1) fE fdE) (mE : Meth K C "add_element" fE) :
    FnOk P w K mg base CX0 2 f fd ["self", "side", "number", "following", "row", "symbol"] (spDem C A m) := by
  have GE : FnOk P w K mg base CX0 1 fE fdE ["self", "element"] (spAddEl C A m) := ok_addEl FE T
  have bE : Binds K fdE ["self", "element"] [] := FE.bindsN fun _ _ _ _ _ _ us hl => match us, hl with | [_, _], _ => rfl
  refine F.ok scDem (fun vs H Q E h => ?_) (fun cdv A' outer s H vs Q E' hr h => ?_)
  · obtain ⟨L, ρ, S, b, n, f, q, x, rfl, _⟩ := h
    rfl
  · obtain ⟨L, ρ, S, b, n, f, q, x, rfl, c, sz, k⟩ := h
    refine ⟨_, pss_one (ps_if (pt_cmpR op_eq (pv 1) pe_int (nomark _))
      (pss_one (ps_expr (pe_meth (pv 0) T.cl mE GE hr bE .nil pass0 (pa_cons (pe_tup (pa_cons (pv 2) (pa_cons (pv 3) (pa_cons (pv 5) (pa_cons (pv 4) pa_nil))))) pa_nil))))
      (pss_one (ps_expr (pe_meth (pv 0) T.cl mE GE hr bE .nil pass0 (pa_cons (pe_tup (pa_cons (pv 4) (pa_cons (pv 3) (pa_cons (pv 5) (pa_cons (pv 2) pa_nil))))) pa_nil))))), ?_⟩
    refine ⟨_, rfl, rfl, _, rfl, ?_⟩
    cases b with
    | true =>
      refine iteD rfl ⟨_, rfl, L.p, L.dx, _, rfl, c.ins, fl_none _ _ _ _ _ _ _ (by decide +kernel) (by decide +kernel) (by decide +kernel) (by decide +kernel) (by decide +kernel) (by decide +kernel) (by decide +kernel), _, rfl, _, rfl, _, rfl, _, rfl, sz1000 (by show 4 ≤ 100000; decide), fun p hp => ?_⟩
      have s1 : Same H (upd H p (.tup [.int n, .int f, .int x, .int q])) := Same.new hp
      exact ⟨L, ρ, S, p, dem true n f q x, rfl, c.same s1, sz, upd_same, fun ρ' H' t c' fr => k ρ' H' ((TX.same s1).trans t) c' ((Fr.same s1).trans fr)⟩
    | false =>
      refine iteDN (by intro z; cases z) ⟨_, rfl, L.p, L.dx, _, rfl, c.ins, fl_none _ _ _ _ _ _ _ (by decide +kernel) (by decide +kernel) (by decide +kernel) (by decide +kernel) (by decide +kernel) (by decide +kernel) (by decide +kernel), _, rfl, _, rfl, _, rfl, _, rfl, sz1000 (by show 4 ≤ 100000; decide), fun p hp => ?_⟩
      have s1 : Same H (upd H p (.tup [.int q, .int f, .int x, .int n])) := Same.new hp
      exact ⟨L, ρ, S, p, dem false n f q x, rfl, c.same s1, sz, upd_same, fun ρ' H' t c' fr => k ρ' H' ((TX.same s1).trans t) c' ((Fr.same s1).trans fr)⟩
end
end Tac
namespace Tac
open PySem PySem.Spec PyProof.Rows L2 TacR
section
variable {P : Program} {w : World} {K : PySem.W.Frag} {mg : Str → Option Value} {base : Heap}
variable {C : Addr} {A : Bool → AutT} {m : MchT} {ns k : Nat}
theorem at_sd (g : Bool → Addr) (b : Bool) : atI [V.ref (g false), V.ref (g true)] (sd b) = some (V.ref (g b)) := by cases b <;> rfl
theorem paired_keys {H : Hp} : ∀ {l : List Ed} {bs : List Addr}, Paired (fun (p : List Key × V) b => H b = some (.tup (p.1.map kV))) (dE l) bs → Paired (TN H) bs (l.map edL)
  | [], _, h => by
    cases h
    exact .nil
  | e :: l, _, h => by
    cases h with
    | cons h1 h2 =>
      rw [kI_kV] at h1
      exact .cons h1 (paired_keys h2)
/-- d.get(t, {}) -/
theorem MapAt.getD {H : Hp} {d : Addr} {n : Nat} {f : Int → List Ed} {ad : Int → Option Addr} {t : Int} (M : MapAt CD H d n f ad) {td ty tx : TE} {σ : L2.St} {Q : VK} (h1 : ∀ Q' : VK, Q' (.ref d) H → td σ H Q') (h2 : ∀ Q' : VK, Q' (.int t) H → ty σ H Q')
    (h3 : ∀ Q' : VK, (∀ z, H z = none → Q' (.ref z) (upd H z (.dT []))) → tx σ H Q') (k : ∀ b H', Same H H' → CD H' b (f t) → Q (.ref b) H') : tGet td ty tx σ H Q := by
  unfold tGet
  obtain ⟨kvs, hk1, hk2, hk3⟩ := M.kvs
  refine h1 _ ⟨d, rfl, .inl ⟨kvs, .inl hk1⟩, h2 _ (h3 _ fun z hz => ?_)⟩
  have s : Same H (upd H z (.dT [])) := Same.new hz
  refine ⟨_, DGet.k (k := Sum.inl t) (s _ _ hk1), ?_⟩
  rw [hk3 t]
  cases e : ad t with
  | none =>
    refine k z _ s ?_
    rw [M.non t e]
    exact upd_same
  | some b => exact k b _ s ((M.same keepCD s).som t b e)
/-- a pair is put into a dict of the dict -/
theorem MapAt.putD {H : Hp} {d : Addr} {n : Nat} {f : Int → List Ed} {ad : Int → Option Addr} {t : Int} (M : MapAt CD H d n f ad) {b : Addr} {l : List Ed} (hb : ad t = some b) : MapAt CD (upd H b (.dT (dE l))) d n (upt f t l) ad := by
  have h1 := M.som t b hb
  obtain ⟨kvs, k1, k2, k3⟩ := M.kvs
  have tx : TX H (upd H b (.dT (dE l))) := TX.mut h1 (by intro xs z; cases z)
  refine ⟨⟨kvs, by rw [upd_ne (ne_of k1 h1 (by intro z; cases z))]; exact k1, k2, k3⟩, fun u hu => ?_, fun u a hu => ?_, M.inj⟩
  · have q : u ≠ t := fun q => by rw [q, hb] at hu; cases hu
    rw [upt_ne q]
    exact M.non u hu
  · by_cases q : u = t
    · subst q
      rw [hb] at hu
      cases hu
      rw [upt_same]
      exact upd_same
    · rw [upt_ne q]
      have c := M.som u a hu
      exact keepCD.keep c (upd_ne fun z => q (M.inj u t b (by rw [z] at hu; exact hu) hb)) tx
/-- a new place of no role -/
theorem Clo.fresh {L : Lay} {ρ : Addr → Role} {H : Hp} {S : CS} {z : Addr} {o : HO} (c : Clo C A m L ρ H S) (hz : H z = none) :
    ∃ ρ', Clo C A m L ρ' (upd H z o) S ∧ Fr ρ H ρ' (upd H z o) ∧ ρ' z = .oth := by
  refine ⟨fun y => if y = z then .oth else ρ y, (c.role fun y u h => if_neg (ne_of_none h hz)).same (Same.new hz), fun y u h r => ?_, if_pos rfl⟩
  have ne := ne_of_none h hz
  refine ⟨by rw [upd_ne ne]; exact h, ?_⟩
  show (if y = z then Role.oth else ρ y) = .oth
  rw [if_neg ne]
  exact r
/-! ### add_edge -/
def spEdge (C : Addr) (A : Bool → AutT) (m : MchT) (ns k : Nat) : Sp := fun vs H Q _ => ∃ (L : Lay) (ρ : Addr → Role) (S : CS) (b : Bool) (q x : Int), vs = [.ref L.p, .int (sd b), .int q, .int x] ∧ Clo C A m L ρ H S ∧ Rng A ns k S ∧ (∀ b, Aut (A b) k) ∧ Mch m ns k ∧ Lt (A b).length q ∧ Lt k x ∧
  ∀ ρ' H', TX H H' → Clo C A m L ρ' H' (S.addEdge A b q x) → Fr ρ H ρ' H' → Q .non H'
theorem scEdge : FnScope ["self", "side", "row", "symbol", "target", "number", "following"] ["self", "side", "row", "symbol"] (defScope (inClass (top 13) 2)) := ⟨rfl, rfl, rfl, by decide +kernel, rfl, by decide +kernel, by decide +kernel⟩
theorem ok_edge {f fD : Addr} {fd fdD : FuncData} (F : FnP K "add_edge" "Closing.add_edge" (inClass (top 13) 2) f fd) (G : Gx mg) (T : Tx K C) (FD : FnP K "demand" "Closing.demand" (inClass (top 13) 3) fD fdD) (mD : Meth K C "demand" fD)
    (GD : FnOk P w K mg base CX0 2 fD fdD ["self", "side", "number", "following", "row", "symbol"] (spDem C A m)) : FnOk P w K mg base CX0 3 f fd ["self", "side", "row", "symbol"] (spEdge C A m ns k) := by
  have bD : Binds K fdD ["self", "side", "number", "following", "row", "symbol"] [] := FD.bindsN fun _ _ _ _ _ _ us hl => match us, hl with | [_, _, _, _, _, _], _ => rfl
  refine F.ok scEdge (fun vs H Q E h => ?_) (fun cdv A' outer s H vs Q E' hr h => ?_)
  · obtain ⟨L, ρ, S, b, q, x, rfl, _⟩ := h
    rfl
  · obtain ⟨L, ρ, S, b, q, x, rfl, c, R, hA, hM, hq, hx, kk⟩ := h
    have hu := hu_of hr
    refine ⟨_, pss_cons (ps_if (pt_cmp (pc_din hu (pe_tup (pa_cons (pv 2) (pa_cons (pv 3) pa_nil))) (pe_ix (ixT_K (K := K) rfl) (pe_fld (pv 0) rfl) (pv 1) (fun _ _ => rfl)))) (pss_one ps_retN) pss_nil)
      (pss_cons (ps_dput hu (pe_ix (ixT_K (K := K) rfl) (pe_fld (pv 0) rfl) (pv 1) (fun _ _ => rfl)) (pe_tup (pa_cons (pv 2) (pa_cons (pv 3) pa_nil))) pe_bl rfl)
      (pss_cons (ps_set (i := 4) scEdge.nd rfl (Or.inl rfl) (pe_ix (ixT_K (K := K) rfl) (pe_ix (ixT_K (K := K) rfl) (pe_ix (ixT_K (K := K) rfl) (pe_fld (pv 0) rfl) (pv 1) (fun _ _ => rfl)) (pv 2) (fun _ _ => rfl)) (pv 3) (fun _ _ => rfl)))
      (pss_cons (ps_expr (pe_bm PySem.F.plainAttrs_list PySem.F.slot_list_append PySem.F.type_list_append mt_append (pe_setd (pe_ix (ixT_K (K := K) rfl) (pe_fld (pv 0) rfl) (pv 1) (fun _ _ => rfl)) (pv 4) (pe_lst pa_nil) ⟨rfl, rfl, rfl, rfl⟩) (pa_cons (pe_tup (pa_cons (pv 2) (pa_cons (pv 3) pa_nil))) pa_nil)))
      (pss_one (ps_for PassesOwn.never rfl (pi_list (pe_callTy (call_list_dT rfl) (by rfl) G.list (by decide +kernel) (pa_cons (pe_get hu (pe_ix (ixT_K (K := K) rfl) (pe_fld (pv 0) rfl) (pv 1) (fun _ _ => rfl)) (pv 4) pe_dnewT ⟨rfl, rfl, rfl, rfl⟩) pa_nil))) (pg_tup rfl (pgs_cons (pg_name (i := 5) scEdge.nd rfl (Or.inl rfl)) (pgs_cons (pg_name (i := 6) scEdge.nd rfl (Or.inl rfl)) pgs_nil)))
        (pss_one (ps_expr (pe_meth (pv 0) T.cl mD GD hr bD .nil pass0 (pa_cons (pv 1) (pa_cons (pv 5) (pa_cons (pv 6) (pa_cons (pv 2) (pa_cons (pv 3) pa_nil)))))))))))))
      , ?_⟩
    rw [show L2.start ["self", "side", "row", "symbol", "target", "number", "following"] [V.ref L.p, V.int (sd b), V.int q, V.int x] = [some (V.ref L.p), some (V.int (sd b)), some (V.int q), some (V.int x), none, none, none] from rfl]
    -- if (row, symbol) in self.edges[side]: return
    refine ⟨_, rfl, _, rfl, sz1000 (by show 2 ≤ 100000; decide), fun p0 n0 => ?_⟩
    have s0 : Same H (upd H p0 (.tup [.int q, .int x])) := Same.new n0
    have c0 := c.same s0
    refine ⟨_, rfl, L.p, C, L.dx, _, _, rfl, c0.ins, T.cl, T.nEd, fl_edges .., _, rfl, L.edT, _, _, _, rfl, rfl, SqT.of c0.edT, at_sd L.ed b, L.ed b, _, rfl, DGet.t (c0.ed b) (TN.key (show TN _ p0 (edL (q, x)) from upd_same)), _, rfl, ?_⟩
    rw [val_dE]
    by_cases h : (q, x) ∈ S.e b
    · rw [if_pos h]
      have ee : S.addEdge A b q x = S := if_pos h
      rw [ee] at kk
      exact iteT (kk ρ _ (TX.same s0) c0 (Fr.same s0))
    · rw [if_neg h]
      have ee : S.addEdge A b q x = (S.putE A b q x).adds (S.a b (nx (A b) q x)) fun p => dem b p.1 p.2 q x := if_neg h
      rw [ee] at kk
      refine iteF ?_
      -- self.edges[side][row, symbol] = True
      refine ⟨_, rfl, L.p, C, L.dx, _, _, rfl, c0.ins, T.cl, T.nEd, fl_edges .., _, rfl, L.edT, _, _, _, rfl, rfl, SqT.of c0.edT, at_sd L.ed b, _, rfl, _, rfl, sz1000 (by show 2 ≤ 100000; decide), fun p1 n1 => ?_⟩
      have s1 : Same (upd H p0 (.tup [.int q, .int x])) (upd (upd H p0 (.tup [.int q, .int x])) p1 (.tup [.int q, .int x])) := Same.new n1
      have c1 := c0.same s1
      have hl : (dE (S.e b)).length < sizeLine := by
        unfold dE
        rw [List.length_map]
        have h1 := R.eLen b
        have h2 := mul_le_of (hA b).le hM.kHi
        exact szlt (by omega)
      refine ⟨L.ed b, _, rfl, DPut.t (c1.ed b) (TN.key (show TN _ p1 (edL (q, x)) from upd_same)) hl, ?_⟩
      rw [put_dE h]
      obtain ⟨c2, t2⟩ := c1.setEd b (S.e b ++ [(q, x)])
      have fr2 : Fr ρ H ρ (upd (upd (upd H p0 (.tup [.int q, .int x])) p1 (.tup [.int q, .int x])) (L.ed b) (.dT (dE (S.e b ++ [(q, x)])))) := (Fr.same (s0.trans s1)).trans (fr_upd (c1.rE b) (by intro z; cases z))
      have tx2 := (TX.same (s0.trans s1)).trans t2
      generalize upd (upd (upd H p0 (.tup [.int q, .int x])) p1 (.tup [.int q, .int x])) (L.ed b) (.dT (dE (S.e b ++ [(q, x)]))) = H2 at c2 t2 fr2 tx2 ⊢
      clear t2 c1 s1 n1 c0 s0 n0
      -- target
      obtain ⟨b', xs', ys', g1, g2, g3, g4⟩ := (c2.au b).at (hA b) hq hx
      refine ⟨_, rfl, L.p, C, L.dx, _, _, rfl, c2.ins, T.cl, T.nAut, fl_automata .., _, rfl, L.aut, _, _, _, rfl, rfl, SqT.of c2.aut, at_sd L.au b, _, rfl, L.au b, xs', _, _, rfl, rfl, SqT.of g1, g2, _, rfl, b', ys', _, _, rfl, rfl, SqT.of g3, g4, ?_⟩
      have ht := (hA b).nxR hq hx
      have h9 := (hA b).le
      simp only [List.set_cons_zero, List.set_cons_succ]
      -- self.into[side].setdefault(target, []).append((row, symbol))
      obtain ⟨ad, M, rM⟩ := c2.it b
      refine M.setdR keepCL (by intro xs z; cases z) ht (by omega) (fun Q' q => ⟨_, rfl, L.p, C, L.dx, _, _, rfl, c2.ins, T.cl, T.nIn, fl_into .., _, rfl, L.inT, _, _, _, rfl, rfl, SqT.of c2.inT, at_sd L.it b, q⟩) (fun Q' q => ⟨_, rfl, q⟩) (fun Q' q => ⟨Nat.zero_le _, q⟩) fun b2 H3 ad3 M3 hb2 fr3 old3 new3 => ?_
      obtain ⟨as2, l1, l2⟩ := M3.som _ _ hb2
      refine ⟨.inl ⟨rfl, _, SqL.of l1⟩, _, rfl, _, rfl, sz1000 (by show 2 ≤ 100000; decide), fun p4 n4 => ?_⟩
      have s4 : Same H3 (upd H3 p4 (.tup [.int q, .int x])) := Same.new n4
      obtain ⟨xs5, m1, m2, M5⟩ := (M3.same keepCL s4).app (p := p4) (e := (q, x)) hb2 upd_same
      have hlx : (S.i b (nx (A b) q x)).length < 100000 := by
        have h1 := R.iLen b (nx (A b) q x)
        have h2 := mul_le_of (hA b).le hM.kHi
        omega
      refine ⟨b2, xs5, _, rfl, rfl, m1, szlt (by rw [m2]; exact hlx), ?_⟩
      -- the roles
      have role2 : ∀ z o, H2 z = some o → (if z = b2 then Role.inl b else ρ z) = ρ z := fun z o hz => by
        by_cases e : z = b2
        · rw [if_pos e]
          rcases old3 _ _ hb2 with h1 | ⟨_, h1⟩
          · rw [e]
            exact (rM _ _ h1).symm
          · rw [e, h1] at hz
            cases hz
        · rw [if_neg e]
      have kp5 : Kp ρ (fun r => r = .it b ∨ r = .inl b) H2 (upd (upd H3 p4 (.tup [.int q, .int x])) b2 (.lst (xs5 ++ [.ref p4]))) := fun z o hz hn => by
        have e1 : z ≠ L.it b := fun e => hn (.inl (by rw [e]; exact c2.rI b))
        have e2 : z ≠ b2 := fun e => hn (.inr (by have := role2 z o hz; rw [if_pos e] at this; exact this.symm))
        rw [upd_ne e2]
        exact s4 _ _ (fr3 z o hz e1)
      have tx5 : TX H2 (upd (upd H3 p4 (.tup [.int q, .int x])) b2 (.lst (xs5 ++ [.ref p4]))) := fun z xs hz => by
        obtain ⟨kvs, k1, _⟩ := M.kvs
        have h1 := s4 _ _ (fr3 z _ hz (ne_of hz k1 (by intro z; cases z)))
        rw [upd_ne (ne_of h1 m1 (by intro z; cases z))]
        exact h1
      have c5 := c2.setIt (ρ' := fun z => if z = b2 then Role.inl b else ρ z) b kp5 tx5 role2 M5 fun t a h => by
        by_cases e : a = b2
        · exact if_pos e
        · refine (if_neg e).trans ?_
          rcases old3 t a h with h1 | ⟨h1, _⟩
          · exact rM t a h1
          · rw [h1, hb2] at h
            exact absurd (Option.some.inj h).symm e
      have fr5 : Fr ρ H2 (fun z => if z = b2 then Role.inl b else ρ z) (upd (upd H3 p4 (.tup [.int q, .int x])) b2 (.lst (xs5 ++ [.ref p4]))) := fun z o hz hn =>
        ⟨kp5 z o hz (by rw [hn]; intro e; rcases e with e | e <;> cases e), (role2 z o hz).trans hn⟩
      have frA := fr2.trans fr5
      have txA := tx2.trans tx5
      have c5 : Clo C A m L (fun z => if z = b2 then Role.inl b else ρ z) (upd (upd H3 p4 (.tup [.int q, .int x])) b2 (.lst (xs5 ++ [.ref p4]))) (S.putE A b q x) := c5
      generalize (fun z => if z = b2 then Role.inl b else ρ z) = ρ5 at c5 fr5 frA
      generalize upd (upd H3 p4 (.tup [.int q, .int x])) b2 (.lst (xs5 ++ [.ref p4])) = H5 at c5 fr5 frA txA ⊢
      clear fr5 tx5 kp5 role2 M5 m1 m2 s4 n4 l1 l2 fr3 old3 new3 M3 M rM g1 g2 g3 g4 c2 fr2 tx2
      -- for number, following in list(self.askers[side].get(target, {}))
      obtain ⟨adK, MK, rK⟩ := c5.ak b
      refine MK.getD (t := nx (A b) q x) (fun Q' q => ⟨_, rfl, L.p, C, L.dx, _, _, rfl, c5.ins, T.cl, T.nAk, fl_askers .., _, rfl, L.akT, _, _, _, rfl, rfl, SqT.of c5.akT, at_sd L.ak b, q⟩) (fun Q' q => ⟨_, rfl, q⟩) (fun Q' q => q) fun b6 H6 s6 h6 => ?_
      refine ⟨b6, _, rfl, .inl h6, fun D bs hD hkeys => ?_⟩
      have hP := paired_keys hkeys
      obtain ⟨ρ7, c7, fr7, oD⟩ := (c5.same s6).fresh (o := .lst (bs.map V.ref)) hD
      have hP7 := Paired.mono (fun _ _ z => TN.keep (TX.new (o := .lst (bs.map V.ref)) hD) z) hP
      have hbl : bs.length = (S.a b (nx (A b) q x)).length := by rw [Paired.length hP, List.length_map]; rfl
      have R1 := putE_rng (A := A) hA R hq hx h
      refine ⟨D, rfl, ⟨_, SqL.of upd_same⟩, for_list (K := K) (a := D) (xs := bs.map V.ref)
        (fun i σ H' => ∃ ρ', Clo C A m L ρ' H' ((S.putE A b q x).adds ((S.a b (nx (A b) q x)).take i) fun p => dem b p.1 p.2 q x) ∧ TX (upd H6 D (.lst (bs.map V.ref))) H' ∧ Fr ρ7 (upd H6 D (.lst (bs.map V.ref))) ρ' H' ∧
          ∃ u w, σ = [some (.ref L.p), some (.int (sd b)), some (.int q), some (.int x), some (.int (nx (A b) q x)), u, w])
        ⟨ρ7, c7, TX.refl _, Fr.refl _ _, none, none, rfl⟩ (fun i σ H' _ p => by
          obtain ⟨ρ', _, _, fr, _⟩ := p
          exact SqL.of (fr D _ upd_same oD).1) ?_ ?_⟩
      · rintro i y σ H' hy ⟨ρ', c', tx', fr', u, w', rfl⟩
        obtain ⟨hi, _⟩ := List.getElem?_eq_some_iff.mp hy
        rw [List.length_map] at hi
        obtain ⟨cc, r, e1, e2, e3⟩ := paired_at hP7 i (by rw [List.length_map]; show i < (S.a b (nx (A b) q x)).length; omega)
        rw [List.getElem?_map, e1] at hy
        obtain rfl : V.ref cc = y := Option.some.inj hy
        rw [List.getElem?_map] at e2
        cases ep : (S.a b (nx (A b) q x))[i]? with
        | none =>
          have e2 : ((S.a b (nx (A b) q x))[i]?).map edL = some r := e2
          rw [ep] at e2
          cases e2
        | some pr =>
          have e2 : ((S.a b (nx (A b) q x))[i]?).map edL = some r := e2
          rw [ep] at e2
          obtain rfl : edL pr = r := Option.some.inj e2
          have e4 : H' cc = some (.tup [.int pr.1, .int pr.2]) := tx' _ _ e3
          have R2 : Rng A ns k ((S.putE A b q x).adds ((S.a b (nx (A b) q x)).take i) fun p => dem b p.1 p.2 q x) := adds_rng _ _ R1 fun p hp => by
            obtain ⟨h1, h2⟩ := R.aR b _ p (List.mem_of_mem_take hp)
            exact dem_rng h1 h2 hq hx
          refine ⟨cc, _, rfl, SqT.of e4, rfl, _, _, rfl, _, _, rfl, rfl, ?_⟩
          refine ⟨_, rfl, L.p, L.dx, _, rfl, c'.ins, fl_none _ _ _ _ _ _ _ (by decide +kernel) (by decide +kernel) (by decide +kernel) (by decide +kernel) (by decide +kernel) (by decide +kernel) (by decide +kernel), _, rfl, _, rfl, _, rfl, _, rfl, _, rfl, ?_⟩
          refine ⟨L, ρ', _, b, pr.1, pr.2, q, x, rfl, c', R2.sz hA hM, fun ρ8 H8 t8 c8 fr8 => ⟨ρ8, ?_, tx'.trans t8, fr'.trans fr8, _, _, rfl⟩⟩
          rw [List.take_add_one, ep]
          show Clo C A m L ρ8 H8 ((S.putE A b q x).adds ((S.a b (nx (A b) q x)).take i ++ [pr]) fun p => dem b p.1 p.2 q x)
          rw [adds_snoc]
          exact c8
      · rintro σ H' ⟨ρ', c', tx', fr', u, w', rfl⟩
        rw [List.length_map, hbl, List.take_length] at c'
        exact kk ρ' H' (txA.trans ((TX.same s6).trans ((TX.new hD).trans tx'))) c' (frA.trans ((Fr.same s6).trans (fr7.trans fr')))
end
end Tac
namespace Tac
open PySem PySem.Spec PyProof.Rows L2 TacR
section
variable {P : Program} {w : World} {K : PySem.W.Frag} {mg : Str → Option Value} {base : Heap}
variable {C : Addr} {A : Bool → AutT} {m : MchT} {ns k : Nat}
theorem ups_self {α : Type} (f : Bool → α) (b : Bool) : ups f b (f b) = f := by
  funext c
  by_cases e : c = b
  · rw [e, ups_same]
  · rw [ups_ne e]
/-! ### move -/
def spMove (C : Addr) (A : Bool → AutT) (m : MchT) (ns k : Nat) : Sp := fun vs H Q _ => ∃ (L : Lay) (ρ : Addr → Role) (S : CS) (b : Bool) (own t : Int) (rr : Addr) (w' mv f : Int), vs = [.ref L.p, .int (sd b), .int own, .int t, .ref rr] ∧ Clo C A m L ρ H S ∧ Rng A ns k S ∧ (∀ b, Aut (A b) k) ∧ Mch m ns k ∧
  H rr = some (.tup [.int w', .int mv, .int f]) ∧ Lt (A (!b)).length own ∧ Lt (A b).length t ∧ Lt k w' ∧ Lt ns f ∧
  ∀ ρ' H', TX H H' → Clo C A m L ρ' H' (S.move A b own t w' f) → Fr ρ H ρ' H' → Q .non H'
abbrev nMove : List Str := ["self", "side", "own", "target", "rule", "write", "_", "following", "other", "number", "askers", "row", "symbol"]
theorem scMove : FnScope nMove ["self", "side", "own", "target", "rule"] (defScope (inClass (top 13) 4)) := ⟨rfl, rfl, rfl, by decide +kernel, rfl, by decide +kernel, by decide +kernel⟩
theorem ok_move {f fD fG : Addr} {fd fdD fdG : FuncData} (F : FnP K "move" "Closing.move" (inClass (top 13) 4) f fd) (G : Gx mg) (T : Tx K C) (FD : FnP K "demand" "Closing.demand" (inClass (top 13) 3) fD fdD) (mD : Meth K C "demand" fD)
    (GD : FnOk P w K mg base CX0 2 fD fdD ["self", "side", "number", "following", "row", "symbol"] (spDem C A m)) (FG : FnP K "add_edge" "Closing.add_edge" (inClass (top 13) 2) fG fdG) (mG : Meth K C "add_edge" fG)
    (GG : FnOk P w K mg base CX0 3 fG fdG ["self", "side", "row", "symbol"] (spEdge C A m ns k)) : FnOk P w K mg base CX0 4 f fd ["self", "side", "own", "target", "rule"] (spMove C A m ns k) := by
  have bD : Binds K fdD ["self", "side", "number", "following", "row", "symbol"] [] := FD.bindsN fun _ _ _ _ _ _ us hl => match us, hl with | [_, _, _, _, _, _], _ => rfl
  have bG : Binds K fdG ["self", "side", "row", "symbol"] [] := FG.bindsN fun _ _ _ _ _ _ us hl => match us, hl with | [_, _, _, _], _ => rfl
  refine F.ok scMove (fun vs H Q E h => ?_) (fun cdv A' outer s H vs Q E' hr h => ?_)
  · obtain ⟨L, ρ, S, b, own, t, rr, w', mv, f, rfl, _⟩ := h
    rfl
  · obtain ⟨L, ρ, S, b, own, t, rr, w', mv, f, rfl, c, R, hA, hM, hrr, ho, ht, hw, hf, kk⟩ := h
    have hu := hu_of hr
    have hr2 : Room 2 _ := hr.mono (by decide)
    refine ⟨_, pss_cons (ps_asg (pv 4) (pg_tup rfl (pgs_cons (pg_name (i := 5) scMove.nd rfl (Or.inl rfl)) (pgs_cons (pg_name (i := 6) scMove.nd rfl (Or.inl rfl)) (pgs_cons (pg_name (i := 7) scMove.nd rfl (Or.inl rfl)) pgs_nil)))))
      (pss_cons (ps_set (i := 8) scMove.nd rfl (Or.inl rfl) (pe_op op_sub pe_int (pv 1)))
      (pss_cons (ps_expr (pe_meth (pv 0) T.cl mG GG hr bG .nil pass0 (pa_cons (pv 8) (pa_cons (pv 2) (pa_cons (pv 5) pa_nil)))))
      (pss_cons (ps_set (i := 9) scMove.nd rfl (Or.inl rfl) (pe_ix (ixT_K (K := K) rfl) (pe_ix (ixT_K (K := K) rfl) (pe_ix (ixT_K (K := K) rfl) (pe_fld (pv 0) rfl) (pv 8) (fun _ _ => rfl)) (pv 2) (fun _ _ => rfl)) (pv 5) (fun _ _ => rfl)))
      (pss_cons (ps_set (i := 10) scMove.nd rfl (Or.inl rfl) (pe_setd (pe_ix (ixT_K (K := K) rfl) (pe_fld (pv 0) rfl) (pv 1) (fun _ _ => rfl)) (pv 3) pe_dnewT ⟨rfl, rfl, rfl, rfl⟩))
      (pss_one (ps_if (pt_cmp (pc_dnotin hu (pe_tup (pa_cons (pv 9) (pa_cons (pv 7) pa_nil))) (pv 10)))
        (pss_cons (ps_dput hu (pv 10) (pe_tup (pa_cons (pv 9) (pa_cons (pv 7) pa_nil))) pe_bl rfl)
        (pss_one (ps_for PassesOwn.never rfl (pi_list (pe_callTy call_list_of (by rfl) G.list (by decide +kernel) (pa_cons (pe_get hu (pe_ix (ixT_K (K := K) rfl) (pe_fld (pv 0) rfl) (pv 1) (fun _ _ => rfl)) (pv 3) (pe_lst pa_nil) ⟨rfl, rfl, rfl, rfl⟩) pa_nil))) (pg_tup rfl (pgs_cons (pg_name (i := 11) scMove.nd rfl (Or.inl rfl)) (pgs_cons (pg_name (i := 12) scMove.nd rfl (Or.inl rfl)) pgs_nil)))
          (pss_one (ps_expr (pe_meth (pv 0) T.cl mD GD hr2 bD .nil pass0 (pa_cons (pv 1) (pa_cons (pv 9) (pa_cons (pv 7) (pa_cons (pv 11) (pa_cons (pv 12) pa_nil)))))))))))
        pss_nil)))))), ?_⟩
    rw [show L2.start nMove [V.ref L.p, V.int (sd b), V.int own, V.int t, V.ref rr] = [some (V.ref L.p), some (V.int (sd b)), some (V.int own), some (V.int t), some (V.ref rr), none, none, none, none, none, none, none, none] from rfl]
    refine ⟨_, rfl, rr, _, rfl, SqT.of hrr, rfl, _, _, rfl, _, _, rfl, _, _, rfl, rfl, ?_⟩
    refine ⟨_, rfl, _, _, rfl, rfl, ?_⟩
    simp only [List.set_cons_zero, List.set_cons_succ]
    rw [show (1 : Int) - sd b = sd (!b) by cases b <;> rfl]
    -- self.add_edge(other, own, write)
    refine ⟨_, rfl, L.p, L.dx, _, rfl, c.ins, fl_none _ _ _ _ _ _ _ (by decide +kernel) (by decide +kernel) (by decide +kernel) (by decide +kernel) (by decide +kernel) (by decide +kernel) (by decide +kernel), _, rfl, _, rfl, _, rfl, L, ρ, S, !b, own, w', rfl, c, R, hA, hM, ho, hw, fun ρ1 H1 t1 c1 fr1 => ?_⟩
    have R1 := addEdge_rng (b := !b) hA R ho hw
    have kk : ∀ ρ' H', TX H H' → Clo C A m L ρ' H' ((S.addEdge A (!b) own w').ask b t (nx (A (!b)) own w') f) → Fr ρ H ρ' H' → Q .non H' := kk
    generalize S.addEdge A (!b) own w' = S1 at c1 R1 kk
    -- number
    obtain ⟨b', xs', ys', g1, g2, g3, g4⟩ := (c1.au (!b)).at (hA (!b)) ho hw
    refine ⟨_, rfl, L.p, C, L.dx, _, _, rfl, c1.ins, T.cl, T.nAut, fl_automata .., _, rfl, L.aut, _, _, _, rfl, rfl, SqT.of c1.aut, at_sd L.au (!b), _, rfl, L.au (!b), xs', _, _, rfl, rfl, SqT.of g1, g2, _, rfl, b', ys', _, _, rfl, rfl, SqT.of g3, g4, ?_⟩
    have hn := (hA (!b)).nxR ho hw
    generalize nx (A (!b)) own w' = n at hn kk g4 ⊢
    have h9 := (hA b).le
    simp only [List.set_cons_zero, List.set_cons_succ]
    -- askers = self.askers[side].setdefault(target, {})
    obtain ⟨ad, M, rM⟩ := c1.ak b
    refine M.setdR keepCD (by intro xs z; cases z) ht (by omega) (fun Q' q => ⟨_, rfl, L.p, C, L.dx, _, _, rfl, c1.ins, T.cl, T.nAk, fl_askers .., _, rfl, L.akT, _, _, _, rfl, rfl, SqT.of c1.akT, at_sd L.ak b, q⟩) (fun Q' q => ⟨_, rfl, q⟩) (fun Q' q => q) fun b2 H3 ad3 M3 hb2 fr3 old3 new3 => ?_
    have role2 : ∀ z o, H1 z = some o → (if z = b2 then Role.akd b else ρ1 z) = ρ1 z := fun z o hz => by
      by_cases e : z = b2
      · rw [if_pos e]
        rcases old3 _ _ hb2 with h1 | ⟨_, h1⟩
        · rw [e]
          exact (rM _ _ h1).symm
        · rw [e, h1] at hz
          cases hz
      · rw [if_neg e]
    have kp3 : Kp ρ1 (fun r => r = .ak b ∨ r = .akd b) H1 H3 := fun z o hz hn => fr3 z o hz fun e => hn (.inl (by rw [e]; exact c1.rK b))
    have tx3 : TX H1 H3 := fun z xs hz => by
      obtain ⟨kvs, k1, _⟩ := M.kvs
      exact fr3 z _ hz (ne_of hz k1 (by intro z; cases z))
    have c3 := c1.setAk (ρ' := fun z => if z = b2 then Role.akd b else ρ1 z) b kp3 tx3 role2 M3 fun t a h => by
      by_cases e : a = b2
      · exact if_pos e
      · refine (if_neg e).trans ?_
        rcases old3 t a h with h1 | ⟨h1, _⟩
        · exact rM t a h1
        · rw [h1, hb2] at h
          exact absurd (Option.some.inj h).symm e
    rw [ups_self] at c3
    have c3 : Clo C A m L (fun z => if z = b2 then Role.akd b else ρ1 z) H3 S1 := c3
    have r3 : (fun z => if z = b2 then Role.akd b else ρ1 z) b2 = .akd b := if_pos rfl
    have fr3' : Fr ρ1 H1 (fun z => if z = b2 then Role.akd b else ρ1 z) H3 := fun z o hz hn => ⟨kp3 z o hz (by rw [hn]; intro e; rcases e with e | e <;> cases e), (role2 z o hz).trans hn⟩
    have frA := fr1.trans fr3'
    have txA := t1.trans tx3
    have rad : ∀ t a, ad3 t = some a → (fun z => if z = b2 then Role.akd b else ρ1 z) a = .akd b := fun t a h => by
      by_cases e : a = b2
      · exact if_pos e
      · refine (if_neg e).trans ?_
        rcases old3 t a h with h1 | ⟨h1, _⟩
        · exact rM t a h1
        · rw [h1, hb2] at h
          exact absurd (Option.some.inj h).symm e
    generalize (fun z => if z = b2 then Role.akd b else ρ1 z) = ρ3 at c3 r3 fr3' frA rad
    clear fr3' tx3 kp3 role2 fr3 old3 new3 M rM g1 g2 g3 g4 c1 fr1 t1
    have hb2d := M3.som _ _ hb2
    simp only [List.set_cons_zero, List.set_cons_succ]
    -- if (number, following) not in askers
    refine ⟨_, rfl, _, rfl, sz1000 (by show 2 ≤ 100000; decide), fun p4 n4 => ?_⟩
    have s4 : Same H3 (upd H3 p4 (.tup [.int n, .int f])) := Same.new n4
    refine ⟨_, rfl, b2, _, rfl, DGet.t (s4 _ _ hb2d) (TN.key (show TN _ p4 (edL (n, f)) from upd_same)), _, rfl, ?_⟩
    rw [val_dE]
    by_cases h : (n, f) ∈ S1.a b t
    · rw [if_pos h]
      have ee : S1.ask b t n f = S1 := if_pos h
      rw [ee] at kk
      exact iteF (kk ρ3 _ (txA.trans (TX.same s4)) (c3.same s4) (frA.trans (Fr.same s4)))
    · rw [if_neg h]
      have ee : S1.ask b t n f = (S1.putA b t n f).adds (S1.i b t) fun p => dem b n f p.1 p.2 := if_neg h
      rw [ee] at kk
      refine iteT ?_
      -- askers[number, following] = True
      refine ⟨_, rfl, _, rfl, _, rfl, sz1000 (by show 2 ≤ 100000; decide), fun p5 n5 => ?_⟩
      have s5 : Same (upd H3 p4 (.tup [.int n, .int f])) (upd (upd H3 p4 (.tup [.int n, .int f])) p5 (.tup [.int n, .int f])) := Same.new n5
      have hl : (dE (S1.a b t)).length < sizeLine := by
        unfold dE
        rw [List.length_map]
        have h1 := R1.aLen b t
        have h2 := mul_le_of (hA (!b)).le hM.sLe
        exact szlt (by omega)
      refine ⟨b2, _, rfl, DPut.t (s5 _ _ (s4 _ _ hb2d)) (TN.key (show TN _ p5 (edL (n, f)) from upd_same)) hl, ?_⟩
      rw [put_dE h]
      have M5 := (M3.same keepCD (s4.trans s5)).putD (l := S1.a b t ++ [(n, f)]) hb2
      have c5 := c3.same (s4.trans s5)
      have tx6 : TX (upd (upd H3 p4 (.tup [.int n, .int f])) p5 (.tup [.int n, .int f])) (upd (upd (upd H3 p4 (.tup [.int n, .int f])) p5 (.tup [.int n, .int f])) b2 (.dT (dE (S1.a b t ++ [(n, f)])))) := TX.mut (s5 _ _ (s4 _ _ hb2d)) (by intro xs z; cases z)
      have c6 := c5.setAk (ρ' := ρ3) b (fun z o hz hn => kp_upd r3 z o hz fun e => hn (.inr e)) tx6 (fun _ _ _ => rfl) M5 rad
      have c6 : Clo C A m L ρ3 (upd (upd (upd H3 p4 (.tup [.int n, .int f])) p5 (.tup [.int n, .int f])) b2 (.dT (dE (S1.a b t ++ [(n, f)])))) (S1.putA b t n f) := c6
      have frB := frA.trans ((Fr.same (s4.trans s5)).trans (fr_upd (o := .dT (dE (S1.a b t ++ [(n, f)]))) r3 (by intro z; cases z)))
      have txB := txA.trans ((TX.same (s4.trans s5)).trans tx6)
      generalize upd (upd (upd H3 p4 (.tup [.int n, .int f])) p5 (.tup [.int n, .int f])) b2 (.dT (dE (S1.a b t ++ [(n, f)]))) = H6 at c6 frB txB ⊢
      clear tx6 c5 M5 s5 n5 s4 n4 hb2d rad c3 frA txA M3 r3
      -- for row, symbol in list(self.into[side].get(target, []))
      obtain ⟨adK, MK, rK⟩ := c6.it b
      refine MK.getL (t := t) (fun Q' q => ⟨_, rfl, L.p, C, L.dx, _, _, rfl, c6.ins, T.cl, T.nIn, fl_into .., _, rfl, L.inT, _, _, _, rfl, rfl, SqT.of c6.inT, at_sd L.it b, q⟩) (fun Q' q => ⟨_, rfl, q⟩) (fun Q' q => ⟨Nat.zero_le _, q⟩) fun b7 H7 s7 h7 => ?_
      obtain ⟨bs, l1, l2⟩ := h7
      have l2 : Paired (TN H7) bs ((S1.i b t).map edL) := l2
      refine ⟨b7, _, rfl, .inl (SqL.of l1), fun D hD => ?_⟩
      obtain ⟨ρ8, c8, fr8, oD⟩ := (c6.same s7).fresh (o := .lst (bs.map V.ref)) hD
      have hP8 := Paired.mono (fun _ _ z => TN.keep (TX.new (o := .lst (bs.map V.ref)) hD) z) l2
      have hbl : bs.length = (S1.i b t).length := by rw [Paired.length l2, List.length_map]
      have R2 := putA_rng R1 hn hf h
      refine ⟨D, rfl, ⟨_, SqL.of upd_same⟩, for_list (K := K) (a := D) (xs := bs.map V.ref)
        (fun i σ H' => ∃ ρ', Clo C A m L ρ' H' ((S1.putA b t n f).adds ((S1.i b t).take i) fun p => dem b n f p.1 p.2) ∧ TX (upd H7 D (.lst (bs.map V.ref))) H' ∧ Fr ρ8 (upd H7 D (.lst (bs.map V.ref))) ρ' H' ∧
          ∃ u v, σ = [some (.ref L.p), some (.int (sd b)), some (.int own), some (.int t), some (.ref rr), some (.int w'), some (.int mv), some (.int f), some (.int (sd (!b))), some (.int n), some (.ref b2), u, v])
        ⟨ρ8, c8, TX.refl _, Fr.refl _ _, none, none, rfl⟩ (fun i σ H' _ p => by
          obtain ⟨ρ', _, _, fr, _⟩ := p
          exact SqL.of (fr D _ upd_same oD).1) ?_ ?_⟩
      · rintro i y σ H' hy ⟨ρ', c', tx', fr', u, v, rfl⟩
        obtain ⟨hi, _⟩ := List.getElem?_eq_some_iff.mp hy
        rw [List.length_map] at hi
        obtain ⟨cc, r, e1, e2, e3⟩ := paired_at hP8 i (by rw [List.length_map]; omega)
        rw [List.getElem?_map, e1] at hy
        obtain rfl : V.ref cc = y := Option.some.inj hy
        rw [List.getElem?_map] at e2
        cases ep : (S1.i b t)[i]? with
        | none => rw [ep] at e2; cases e2
        | some pr =>
          rw [ep] at e2
          obtain rfl : edL pr = r := Option.some.inj e2
          have e4 : H' cc = some (.tup [.int pr.1, .int pr.2]) := tx' _ _ e3
          have R3 : Rng A ns k ((S1.putA b t n f).adds ((S1.i b t).take i) fun p => dem b n f p.1 p.2) := adds_rng _ _ R2 fun p hp => by
            obtain ⟨h1, h2⟩ := R1.eR b p ((R1.iX b t p).mp (List.mem_of_mem_take hp)).1
            exact dem_rng hn hf h1 h2
          refine ⟨cc, _, rfl, SqT.of e4, rfl, _, _, rfl, _, _, rfl, rfl, ?_⟩
          refine ⟨_, rfl, L.p, L.dx, _, rfl, c'.ins, fl_none _ _ _ _ _ _ _ (by decide +kernel) (by decide +kernel) (by decide +kernel) (by decide +kernel) (by decide +kernel) (by decide +kernel) (by decide +kernel), _, rfl, _, rfl, _, rfl, _, rfl, _, rfl, ?_⟩
          refine ⟨L, ρ', _, b, n, f, pr.1, pr.2, rfl, c', R3.sz hA hM, fun ρ9 H9 t9 c9 fr9 => ⟨ρ9, ?_, tx'.trans t9, fr'.trans fr9, _, _, rfl⟩⟩
          rw [List.take_add_one, ep]
          show Clo C A m L ρ9 H9 ((S1.putA b t n f).adds ((S1.i b t).take i ++ [pr]) fun p => dem b n f p.1 p.2)
          rw [adds_snoc]
          exact c9
      · rintro σ H' ⟨ρ', c', tx', fr', u, v, rfl⟩
        rw [List.length_map, hbl, List.take_length] at c'
        exact kk ρ' H' (txB.trans ((TX.same s7).trans ((TX.new hD).trans tx'))) c' (frB.trans ((Fr.same s7).trans (fr8.trans fr')))
end
end Tac
namespace Tac
open PySem PySem.Spec PyProof.Rows L2 TacR
section
variable {P : Program} {w : World} {K : PySem.W.Frag} {mg : Str → Option Value} {base : Heap}
variable {C : Addr} {A : Bool → AutT} {m : MchT} {ns k : Nat}
/-! ### an instance as its fields come -/
structure Ini (p : Addr) (H0 : Hp) (C dx : Addr) (fs : List (Str × V)) (l : List (Addr × HO × Role)) (ρ : Addr → Role) (H : Hp) : Prop where
  ins : H p = some (.ins C dx fs)
  rp : ρ p = .inst
  mem : ∀ t ∈ l, H t.1 = some t.2.1 ∧ ρ t.1 = t.2.2 ∧ t.1 ≠ p
  old : ∀ z o, H0 z = some o → z ≠ p → H z = some o ∧ ρ z = .oth
theorem Ini.first {p : Addr} {H0 : Hp} {C dx : Addr} {fs : List (Str × V)} (h : H0 p = some (.ins C dx fs)) : Ini p H0 C dx fs [] (fun z => if z = p then .inst else .oth) H0 :=
  ⟨h, if_pos rfl, (fun _ h => nomatch h), fun z o h n => ⟨h, if_neg n⟩⟩
theorem Ini.new {p : Addr} {H0 : Hp} {C dx : Addr} {fs : List (Str × V)} {l : List (Addr × HO × Role)} {ρ : Addr → Role} {H : Hp} (I : Ini p H0 C dx fs l ρ H) {z : Addr} (hz : H z = none) (o : HO) (r : Role) :
    Ini p H0 C dx fs ((z, o, r) :: l) (fun y => if y = z then r else ρ y) (upd H z o) := by
  have np := ne_of_none I.ins hz
  refine ⟨by rw [upd_ne np]; exact I.ins, (if_neg np).trans I.rp, fun t ht => ?_, fun y u h n => ?_⟩
  · rcases List.mem_cons.mp ht with e | e
    · subst e
      exact ⟨upd_same, if_pos rfl, fun e => np e.symm⟩
    · obtain ⟨h1, h2, h3⟩ := I.mem t e
      have n := ne_of_none h1 hz
      exact ⟨by rw [upd_ne n]; exact h1, (if_neg n).trans h2, h3⟩
  · obtain ⟨h1, h2⟩ := I.old y u h n
    have n2 := ne_of_none h1 hz
    exact ⟨by rw [upd_ne n2]; exact h1, (if_neg n2).trans h2⟩
theorem Ini.put {p : Addr} {H0 : Hp} {C dx : Addr} {fs : List (Str × V)} {l : List (Addr × HO × Role)} {ρ : Addr → Role} {H : Hp} (I : Ini p H0 C dx fs l ρ H) (fs' : List (Str × V)) : Ini p H0 C dx fs' l ρ (upd H p (.ins C dx fs')) :=
  ⟨upd_same, I.rp, fun t ht => by
    obtain ⟨h1, h2, h3⟩ := I.mem t ht
    exact ⟨by rw [upd_ne h3]; exact h1, h2, h3⟩, fun y u h n => by
    obtain ⟨h1, h2⟩ := I.old y u h n
    exact ⟨by rw [upd_ne n]; exact h1, h2⟩⟩
theorem putF_len (f : Str) (v : V) : ∀ fs : List (Str × V), (putF f v fs).length ≤ fs.length + 1
  | [] => Nat.le_refl _
  | (g, u) :: r => by
    unfold putF
    split
    · exact Nat.le_succ _
    · have := putF_len f v r
      simp only [List.length_cons]
      omega
/-! ### __init__ -/
def spInit (C : Addr) (A : Bool → AutT) (m : MchT) : Sp := fun vs H Q _ => ∃ (p dx mach l r : Addr), vs = [.ref p, .ref mach, .ref l, .ref r] ∧ H p = some (.ins C dx []) ∧ TM H mach m ∧ T2 H l (A false) ∧ T2 H r (A true) ∧
  ∀ (L : Lay) (ρ : Addr → Role) (H' : Hp), L.p = p → L.mach = mach → L.au false = l → L.au true = r → Clo C A m L ρ H' CS.init → (∀ z o, H z = some o → z ≠ p → H' z = some o ∧ ρ z = .oth) → Q .non H'
theorem scInit : FnScope ["self", "machine", "left", "right"] ["self", "machine", "left", "right"] (defScope (inClass (top 13) 0)) := ⟨rfl, rfl, rfl, by decide +kernel, rfl, by decide +kernel, by decide +kernel⟩
theorem ok_init {f : Addr} {fd : FuncData} (F : FnP K "__init__" "Closing.__init__" (inClass (top 13) 0) f fd) (T : Tx K C) : FnOk P w K mg base CX0 1 f fd ["self", "machine", "left", "right"] (spInit C A m) := by
  refine F.ok scInit (fun vs H Q E h => ?_) (fun cdv A' outer s H vs Q E' hr h => ?_)
  · obtain ⟨p, dx, mach, l, r, rfl, _⟩ := h
    rfl
  · obtain ⟨p, dx, mach, l, r, rfl, hp, hM, hl, hr', q⟩ := h
    refine ⟨_, pss_cons (ps_fld (pv 0) (pv 1) rfl)
      (pss_cons (ps_fld (pv 0) (pe_tup (pa_cons (pv 2) (pa_cons (pv 3) pa_nil))) rfl)
      (pss_cons (ps_fld (pv 0) (pe_tup (pa_cons pe_dnewT (pa_cons pe_dnewT pa_nil))) rfl)
      (pss_cons (ps_fld (pv 0) (pe_tup (pa_cons pe_dnewK (pa_cons pe_dnewK pa_nil))) rfl)
      (pss_cons (ps_fld (pv 0) pe_dnewT rfl)
      (pss_cons (ps_fld (pv 0) (pe_lst pa_nil) rfl)
      (pss_one (ps_fld (pv 0) (pe_tup (pa_cons pe_dnewK (pa_cons pe_dnewK pa_nil))) rfl))))))), ?_⟩
    have I0 := Ini.first hp
    refine ⟨_, rfl, _, rfl, p, C, dx, _, rfl, hp, T.cl, T.nMach, by show 0 < 1000; decide, ?_⟩
    have I1 := I0.put (putF "machine" (.ref mach) [])
    have h1 := putF_len "machine" (.ref mach) []
    -- automata
    refine ⟨_, rfl, _, rfl, sz1000 (by show 2 ≤ 100000; decide), fun aut n2 => ?_⟩
    have I2 := I1.new n2 (.tup [.ref l, .ref r]) .oth
    refine ⟨_, rfl, p, C, dx, _, rfl, I2.ins, T.cl, T.nAut, by show (putF "machine" (V.ref mach) []).length < 1000; simp only [List.length_nil] at h1; omega, ?_⟩
    have I3 := I2.put (putF "automata" (.ref aut) (putF "machine" (.ref mach) []))
    have h3 := putF_len "automata" (.ref aut) (putF "machine" (.ref mach) [])
    -- edges
    refine fun e0 n4 => ?_
    have I4 := I3.new n4 (.dT []) (.ed false)
    refine fun e1 n5 => ?_
    have I5 := I4.new n5 (.dT []) (.ed true)
    refine ⟨sz1000 (by show 2 ≤ 100000; decide), fun edT n6 => ?_⟩
    have I6 := I5.new n6 (.tup [.ref e0, .ref e1]) .oth
    refine ⟨_, rfl, p, C, dx, _, rfl, I6.ins, T.cl, T.nEd, by simp only [List.length_nil] at h1; omega, ?_⟩
    have I7 := I6.put (putF "edges" (.ref edT) (putF "automata" (.ref aut) (putF "machine" (.ref mach) [])))
    have h7 := putF_len "edges" (.ref edT) (putF "automata" (.ref aut) (putF "machine" (.ref mach) []))
    -- into
    refine fun i0 n8 => ?_
    have I8 := I7.new n8 (.dK []) (.it false)
    refine fun i1 n9 => ?_
    have I9 := I8.new n9 (.dK []) (.it true)
    refine ⟨sz1000 (by show 2 ≤ 100000; decide), fun inT n10 => ?_⟩
    have I10 := I9.new n10 (.tup [.ref i0, .ref i1]) .oth
    refine ⟨_, rfl, p, C, dx, _, rfl, I10.ins, T.cl, T.nIn, by simp only [List.length_nil] at h1; omega, ?_⟩
    have I11 := I10.put (putF "into" (.ref inT) (putF "edges" (.ref edT) (putF "automata" (.ref aut) (putF "machine" (.ref mach) []))))
    have h11 := putF_len "into" (.ref inT) (putF "edges" (.ref edT) (putF "automata" (.ref aut) (putF "machine" (.ref mach) [])))
    -- members
    refine fun me n12 => ?_
    have I12 := I11.new n12 (.dT []) .me
    refine ⟨_, rfl, p, C, dx, _, rfl, I12.ins, T.cl, T.nMe, by simp only [List.length_nil] at h1; omega, ?_⟩
    have I13 := I12.put (putF "members" (.ref me) (putF "into" (.ref inT) (putF "edges" (.ref edT) (putF "automata" (.ref aut) (putF "machine" (.ref mach) [])))))
    have h13 := putF_len "members" (.ref me) (putF "into" (.ref inT) (putF "edges" (.ref edT) (putF "automata" (.ref aut) (putF "machine" (.ref mach) []))))
    -- waiting
    refine ⟨Nat.zero_le _, fun wa n14 => ?_⟩
    have I14 := I13.new n14 (.lst []) .wa
    refine ⟨_, rfl, p, C, dx, _, rfl, I14.ins, T.cl, T.nWa, by simp only [List.length_nil] at h1; omega, ?_⟩
    have I15 := I14.put (putF "waiting" (.ref wa) (putF "members" (.ref me) (putF "into" (.ref inT) (putF "edges" (.ref edT) (putF "automata" (.ref aut) (putF "machine" (.ref mach) []))))))
    have h15 := putF_len "waiting" (.ref wa) (putF "members" (.ref me) (putF "into" (.ref inT) (putF "edges" (.ref edT) (putF "automata" (.ref aut) (putF "machine" (.ref mach) [])))))
    -- askers
    refine fun k0 n16 => ?_
    have I16 := I15.new n16 (.dK []) (.ak false)
    refine fun k1 n17 => ?_
    have I17 := I16.new n17 (.dK []) (.ak true)
    refine ⟨sz1000 (by show 2 ≤ 100000; decide), fun akT n18 => ?_⟩
    have I18 := I17.new n18 (.tup [.ref k0, .ref k1]) .oth
    refine ⟨_, rfl, p, C, dx, _, rfl, I18.ins, T.cl, T.nAk, by simp only [List.length_nil] at h1; omega, ?_⟩
    have I19 := I18.put (putF "askers" (.ref akT) (putF "waiting" (.ref wa) (putF "members" (.ref me) (putF "into" (.ref inT) (putF "edges" (.ref edT) (putF "automata" (.ref aut) (putF "machine" (.ref mach) [])))))))
    clear I0 I1 I2 I3 I4 I5 I6 I7 I8 I9 I10 I11 I12 I13 I14 I15 I16 I17 I18
    have tx : TX H _ := fun z xs h => (I19.old z _ h (ne_of h hp (by intro z; cases z))).1
    have mAut := I19.mem (aut, .tup [.ref l, .ref r], .oth) (by simp)
    have mE0 := I19.mem (e0, .dT [], .ed false) (by simp)
    have mE1 := I19.mem (e1, .dT [], .ed true) (by simp)
    have mET := I19.mem (edT, .tup [.ref e0, .ref e1], .oth) (by simp)
    have mI0 := I19.mem (i0, .dK [], .it false) (by simp)
    have mI1 := I19.mem (i1, .dK [], .it true) (by simp)
    have mIT := I19.mem (inT, .tup [.ref i0, .ref i1], .oth) (by simp)
    have mMe := I19.mem (me, .dT [], .me) (by simp)
    have mWa := I19.mem (wa, .lst [], .wa) (by simp)
    have mK0 := I19.mem (k0, .dK [], .ak false) (by simp)
    have mK1 := I19.mem (k1, .dK [], .ak true) (by simp)
    have mKT := I19.mem (akT, .tup [.ref k0, .ref k1], .oth) (by simp)
    refine q ⟨p, dx, mach, aut, edT, inT, akT, me, wa, fun b => if b = true then r else l, fun b => if b = true then e1 else e0, fun b => if b = true then i1 else i0, fun b => if b = true then k1 else k0⟩ _ _ rfl rfl rfl rfl ?_ I19.old
    refine ⟨I19.ins, mAut.1, mET.1, mIT.1, mKT.1, hM.keep tx, fun b => ?_, fun b => ?_, fun b => ?_, fun b => ?_, mMe.1, ⟨[], mWa.1, .nil⟩, I19.rp, fun b => ?_, fun b => ?_, fun b => ?_, mMe.2.1, mWa.2.1⟩
    · cases b with
      | true => exact hr'.keep tx
      | false => exact hl.keep tx
    · cases b with
      | true => exact mE1.1
      | false => exact mE0.1
    · refine ⟨fun _ => none, ?_, (fun _ _ e => nomatch e)⟩
      cases b with
      | true => exact MapAt.init mI1.1
      | false => exact MapAt.init mI0.1
    · refine ⟨fun _ => none, ?_, (fun _ _ e => nomatch e)⟩
      cases b with
      | true => exact MapAt.init mK1.1
      | false => exact MapAt.init mK0.1
    · cases b with
      | true => exact mE1.2.1
      | false => exact mE0.2.1
    · cases b with
      | true => exact mI1.2.1
      | false => exact mI0.2.1
    · cases b with
      | true => exact mK1.2.1
      | false => exact mK0.2.1
end
end Tac
namespace Tac
open PySem PySem.Spec PyProof.Rows L2 TacR
section
variable {P : Program} {w : World} {K : PySem.W.Frag} {mg : Str → Option Value} {base : Heap}
variable {C : Addr} {A : Bool → AutT} {m : MchT} {ns k : Nat}
/-! ### elements come in pairs: those known, those that wait -/
def Bal (S T : CS) : Prop := ∃ d, T.mem.length = S.mem.length + d ∧ T.wait.length = S.wait.length + d
theorem Bal.refl (S : CS) : Bal S S := ⟨0, rfl, rfl⟩
theorem Bal.trans {S T U : CS} (a : Bal S T) (b : Bal T U) : Bal S U := by
  obtain ⟨d, h1, h2⟩ := a
  obtain ⟨e, g1, g2⟩ := b
  exact ⟨d + e, by omega, by omega⟩
theorem addEl_bal (S : CS) (x : El) : Bal S (S.addEl x) := by
  unfold CS.addEl
  split
  · exact Bal.refl S
  · exact ⟨1, by simp, by simp⟩
theorem adds_bal (g : Ed → El) : ∀ (l : List Ed) (S : CS), Bal S (S.adds l g)
  | [], S => Bal.refl S
  | p :: l, S => (addEl_bal S (g p)).trans (adds_bal g l (S.addEl (g p)))
theorem addEdge_bal (S : CS) (b : Bool) (q x : Int) : Bal S (S.addEdge A b q x) := by
  unfold CS.addEdge
  split
  · exact Bal.refl S
  · exact adds_bal _ _ (S.putE A b q x)
theorem ask_bal (S : CS) (b : Bool) (t n f : Int) : Bal S (S.ask b t n f) := by
  unfold CS.ask
  split
  · exact Bal.refl S
  · exact adds_bal _ _ (S.putA b t n f)
theorem move_bal (S : CS) (b : Bool) (own t w f : Int) : Bal S (S.move A b own t w f) := (addEdge_bal S _ _ _).trans (ask_bal _ _ _ _ _)
theorem turn_bal (S : CS) (x : El) : Bal S (S.turn A m x) := by
  unfold CS.turn
  split
  · exact Bal.refl S
  · split <;> exact move_bal _ _ _ _ _ _
theorem paired_last {α β : Type} {F : α → β → Prop} {l : List α} {m : List β} (h : Paired F l m) (hm : m ≠ []) : ∃ a b, l[l.length - 1]? = some a ∧ m.getLast? = some b ∧ F a b ∧ Paired F l.dropLast m.dropLast := by
  induction h with
  | nil => exact absurd rfl hm
  | @cons a b l m h1 h2 ih =>
    cases h2 with
    | nil => exact ⟨a, b, rfl, rfl, h1, .nil⟩
    | @cons a2 b2 l2 m2 h3 h4 =>
      obtain ⟨c, d, e1, e2, e3, e4⟩ := ih (by intro z; cases z)
      refine ⟨c, d, ?_, ?_, e3, .cons h1 e4⟩
      · simpa using e1
      · simpa using e2
theorem init_rng : Rng A ns k CS.init where
  eR := fun _ _ h => nomatch h
  eN := fun _ => List.nodup_nil
  iX := fun _ _ _ => ⟨(fun h => nomatch h), (fun h => nomatch h.1)⟩
  iN := fun _ _ => List.nodup_nil
  aR := fun _ _ _ h => nomatch h
  aN := fun _ _ => List.nodup_nil
  mR := fun _ h => nomatch h
  mN := List.nodup_nil
  wS := fun _ h => nomatch h
  wN := List.nodup_nil
theorem init_dem : Dem CS.init := fun _ _ _ _ _ _ h _ => nomatch h
theorem init_proc : Proc A m CS.init := fun _ h => nomatch h
theorem addEl_dem {S : CS} (D : Dem S) (x : El) : Dem (S.addEl x) := fun b t n f q y h1 h2 => by
  obtain ⟨r1, r2, r3⟩ := addEl_rest S x
  rw [r3] at h1
  rw [r2] at h2
  exact (addEl_le S x).mem _ (D b t n f q y h1 h2)
theorem iteNN {c A B : Prop} [Decidable c] (hc : ¬ c) (h : A) : if (!decide c) = true then A else B := by
  rw [decide_eq_false hc]
  exact iteT h
/-! ### close, the method -/
def spCloseM (C : Addr) (A : Bool → AutT) (m : MchT) (ns k : Nat) : Sp := fun vs H Q _ => ∃ (L : Lay) (ρ : Addr → Role), vs = [.ref L.p] ∧ Clo C A m L ρ H CS.init ∧ (∀ b, Aut (A b) k) ∧ Mch m ns k ∧
  ∀ S ρ' H', TX H H' → Clo C A m L ρ' H' S → Fr ρ H ρ' H' → Rng A ns k S → Dem S → Proc A m S → S.wait = [] → (∀ b, ((0, 0) : Ed) ∈ S.e b) → ((0, 0, 0, 0) : El) ∈ S.mem → Q .non H'
abbrev nCloseM : List Str := ["self", "l", "state", "symbol", "r", "rule"]
theorem scCloseM : FnScope nCloseM ["self"] (defScope (inClass (top 13) 5)) := ⟨rfl, rfl, rfl, by decide +kernel, rfl, by decide +kernel, by decide +kernel⟩
theorem ok_closeM {f fE fG fM : Addr} {fd fdE fdG fdM : FuncData} (F : FnP K "close" "Closing.close" (inClass (top 13) 5) f fd) (G : Gx mg) (T : Tx K C)
    (FE : FnP K "add_element" "Closing.add_element" (inClass (top 13) 1) fE fdE) (mE : Meth K C "add_element" fE)
    (FG : FnP K "add_edge" "Closing.add_edge" (inClass (top 13) 2) fG fdG) (mG : Meth K C "add_edge" fG)
    (GG : FnOk P w K mg base CX0 3 fG fdG ["self", "side", "row", "symbol"] (spEdge C A m ns k))
    (FM : FnP K "move" "Closing.move" (inClass (top 13) 4) fM fdM) (mM : Meth K C "move" fM)
    (GM : FnOk P w K mg base CX0 4 fM fdM ["self", "side", "own", "target", "rule"] (spMove C A m ns k)) : FnOk P w K mg base CX0 5 f fd ["self"] (spCloseM C A m ns k) := by
  have GE : FnOk P w K mg base CX0 1 fE fdE ["self", "element"] (spAddEl C A m) := ok_addEl FE T
  have bE : Binds K fdE ["self", "element"] [] := FE.bindsN fun _ _ _ _ _ _ us hl => match us, hl with | [_, _], _ => rfl
  have bG : Binds K fdG ["self", "side", "row", "symbol"] [] := FG.bindsN fun _ _ _ _ _ _ us hl => match us, hl with | [_, _, _, _], _ => rfl
  have bM : Binds K fdM ["self", "side", "own", "target", "rule"] [] := FM.bindsN fun _ _ _ _ _ _ us hl => match us, hl with | [_, _, _, _, _], _ => rfl
  obtain ⟨tS, hS⟩ := G.stop
  obtain ⟨tO, hO⟩ := G.elems
  refine F.ok scCloseM (fun vs H Q E h => ?_) (fun cdv A' outer s H vs Q E' hr h => ?_)
  · obtain ⟨L, ρ, rfl, _⟩ := h
    rfl
  · obtain ⟨L, ρ, rfl, c, hA, hM, kk⟩ := h
    have hr3 : Room 3 _ := hr.mono (by decide)
    have hr1 : Room 1 _ := hr.mono (by decide)
    refine ⟨_, pss_cons (ps_expr (pe_meth (pv 0) T.cl mG GG hr3 bG .nil pass0 (pa_cons pe_int (pa_cons pe_int (pa_cons pe_int pa_nil)))))
      (pss_cons (ps_expr (pe_meth (pv 0) T.cl mG GG hr3 bG .nil pass0 (pa_cons pe_int (pa_cons pe_int (pa_cons pe_int pa_nil)))))
      (pss_cons (ps_expr (pe_meth (pv 0) T.cl mE GE hr1 bE .nil pass0 (pa_cons (pe_tup (pa_cons pe_int (pa_cons pe_int (pa_cons pe_int (pa_cons pe_int pa_nil))))) pa_nil)))
      (pss_one (ps_while PassesOwn.never (PW.pt (pw_and (pt_truth (pe_fld (pv 0) rfl) (by intro _; rfl)) (pw_and1 (pt_cmpR op_le (pe_callB call_len_dT (by rfl) G.len PySem.boot_len (pa_cons (pe_fld (pv 0) rfl) pa_nil)) (pe_glob (v := .int 3000) rfl hO ⟨_, rfl⟩) (nomark _)))))
        (pss_cons (ps_asg (pe_bm0 PySem.F.plainAttrs_list PySem.F.slot_list_pop PySem.F.type_list_pop mt_pop (pe_fld (pv 0) rfl)) (pg_tup rfl (pgs_cons (pg_name (i := 1) scCloseM.nd rfl (Or.inl rfl)) (pgs_cons (pg_name (i := 2) scCloseM.nd rfl (Or.inl rfl)) (pgs_cons (pg_name (i := 3) scCloseM.nd rfl (Or.inl rfl)) (pgs_cons (pg_name (i := 4) scCloseM.nd rfl (Or.inl rfl)) pgs_nil))))))
        (pss_cons (ps_set (i := 5) scCloseM.nd rfl (Or.inl rfl) (pe_ix (ixT_K (K := K) rfl) (pe_ix (ixT_K (K := K) rfl) (pe_fld (pv 0) rfl) (pv 2) (fun _ _ => rfl)) (pv 3) (fun _ _ => rfl)))
        (pss_one (ps_if (pt_cmpR op_ne (pe_ix (ixT_K (K := K) rfl) (pv 5) pe_int (fun _ _ => rfl)) (pe_glob (v := .int (-1)) rfl hS ⟨_, rfl⟩) (nomark _))
          (pss_one (ps_if (pt_cmpR op_eq (pe_ix (ixT_K (K := K) rfl) (pv 5) pe_int (fun _ _ => rfl)) pe_int (nomark _))
            (pss_one (ps_expr (pe_meth (pv 0) T.cl mM GM hr bM .nil pass0 (pa_cons pe_int (pa_cons (pv 1) (pa_cons (pv 4) (pa_cons (pv 5) pa_nil)))))))
            (pss_one (ps_expr (pe_meth (pv 0) T.cl mM GM hr bM .nil pass0 (pa_cons pe_int (pa_cons (pv 4) (pa_cons (pv 1) (pa_cons (pv 5) pa_nil)))))))))
          pss_nil))))
        )))), ?_⟩
    rw [show L2.start nCloseM [V.ref L.p] = [some (V.ref L.p), none, none, none, none, none] from rfl]
    have l0 : ∀ b, Lt (A b).length 0 := fun b => ⟨Int.le_refl _, by have := (hA b).pos; omega⟩
    have lk : Lt k 0 := ⟨Int.le_refl _, by have := hM.kLo; omega⟩
    have ls : Lt ns 0 := ⟨Int.le_refl _, by have := hM.sPos; omega⟩
    -- self.add_edge(0, 0, 0)
    refine ⟨_, rfl, L.p, L.dx, _, rfl, c.ins, fl_none _ _ _ _ _ _ _ (by decide +kernel) (by decide +kernel) (by decide +kernel) (by decide +kernel) (by decide +kernel) (by decide +kernel) (by decide +kernel), L, ρ, CS.init, false, 0, 0, rfl, c, init_rng, hA, hM, l0 _, lk, fun ρ1 H1 t1 c1 fr1 => ?_⟩
    have R1 : Rng A ns k (CS.init.addEdge A false 0 0) := addEdge_rng hA init_rng (l0 _) lk
    have D1 : Dem (CS.init.addEdge A false 0 0) := addEdge_dem init_dem _ _ _
    have P1 : Proc A m (CS.init.addEdge A false 0 0) := (addEdge_le _ _ _ _).proc init_proc
    have g1 := addEdge_has (A := A) CS.init false 0 0
    generalize CS.init.addEdge A false 0 0 = S1 at c1 R1 D1 P1 g1
    -- self.add_edge(1, 0, 0)
    refine ⟨_, rfl, L.p, L.dx, _, rfl, c1.ins, fl_none _ _ _ _ _ _ _ (by decide +kernel) (by decide +kernel) (by decide +kernel) (by decide +kernel) (by decide +kernel) (by decide +kernel) (by decide +kernel), L, ρ1, S1, true, 0, 0, rfl, c1, R1, hA, hM, l0 _, lk, fun ρ2 H2 t2 c2 fr2 => ?_⟩
    have R2 : Rng A ns k (S1.addEdge A true 0 0) := addEdge_rng hA R1 (l0 _) lk
    have D2 : Dem (S1.addEdge A true 0 0) := addEdge_dem D1 _ _ _
    have le2 : Le S1 (S1.addEdge A true 0 0) := addEdge_le _ _ _ _
    have P2 : Proc A m (S1.addEdge A true 0 0) := le2.proc P1
    have g2 : ∀ b, ((0, 0) : Ed) ∈ (S1.addEdge A true 0 0).e b := fun b => match b with
      | false => le2.e _ _ g1
      | true => addEdge_has S1 true 0 0
    generalize S1.addEdge A true 0 0 = S2 at c2 R2 D2 P2 g2
    -- self.add_element((0, 0, 0, 0))
    refine ⟨_, rfl, L.p, L.dx, _, rfl, c2.ins, fl_none _ _ _ _ _ _ _ (by decide +kernel) (by decide +kernel) (by decide +kernel) (by decide +kernel) (by decide +kernel) (by decide +kernel) (by decide +kernel), sz1000 (by show 4 ≤ 100000; decide), fun p3 n3 => ?_⟩
    have s3 : Same H2 (upd H2 p3 (.tup [.int 0, .int 0, .int 0, .int 0])) := Same.new n3
    refine ⟨L, ρ2, S2, p3, (0, 0, 0, 0), rfl, c2.same s3, R2.sz hA hM, upd_same, fun ρ4 H4 t4 c4 fr4 => ?_⟩
    have R4 : Rng A ns k (S2.addEl (0, 0, 0, 0)) := addEl_rng R2 ⟨l0 _, ls, lk, l0 _⟩
    have D4 : Dem (S2.addEl (0, 0, 0, 0)) := addEl_dem D2 _
    have P4 : Proc A m (S2.addEl (0, 0, 0, 0)) := (addEl_le _ _).proc P2
    have g4 : ∀ b, ((0, 0) : Ed) ∈ (S2.addEl (0, 0, 0, 0)).e b := fun b => (addEl_le _ _).e _ _ (g2 b)
    have m4 : ((0, 0, 0, 0) : El) ∈ (S2.addEl (0, 0, 0, 0)).mem := addEl_mem _ _
    have frA : Fr ρ H ρ4 H4 := fr1.trans (fr2.trans ((Fr.same s3).trans fr4))
    have txA : TX H H4 := t1.trans (t2.trans ((TX.same s3).trans t4))
    generalize S2.addEl (0, 0, 0, 0) = S4 at c4 R4 D4 P4 g4 m4
    clear fr4 t4 s3 n3 fr2 t2 fr1 t1 c c1 c2
    -- while
    refine ⟨fun n σ H5 => ∃ S ρ5, Clo C A m L ρ5 H5 S ∧ TX H H5 ∧ Fr ρ H ρ5 H5 ∧ Rng A ns k S ∧ Dem S ∧ Proc A m S ∧ (∀ b, ((0, 0) : Ed) ∈ S.e b) ∧ ((0, 0, 0, 0) : El) ∈ S.mem ∧ n = 2 * (1300 - S.mem.length) + S.wait.length ∧
        ∃ a b d e g, σ = [some (.ref L.p), a, b, d, e, g], ⟨_, S4, ρ4, c4, txA, frA, R4, D4, P4, g4, m4, rfl, none, none, none, none, none, rfl⟩, ?_⟩
    rintro n σ H5 ⟨S, ρ5, c5, tx5, fr5, R5, D5, P5, g5, m5, rfl, a, b, d, e, g, rfl⟩
    obtain ⟨ws, w1, w2⟩ := c5.wa
    refine ⟨_, rfl, L.p, C, L.dx, _, _, rfl, c5.ins, T.cl, T.nWa, fl_waiting .., !(ws.map V.ref).isEmpty, .inl ⟨_, SqL.of w1, rfl⟩, ?_⟩
    by_cases hw : S.wait = []
    · rw [hw] at w2
      cases w2
      refine iteF (iteF ?_)
      exact kk S ρ5 H5 tx5 c5 fr5 R5 D5 P5 hw g5 m5
    · obtain ⟨pa, x, e1, e2, e3, e4⟩ := paired_last w2 (by intro z; exact hw (List.map_eq_nil_iff.mp z))
      have hne : (!(ws.map V.ref).isEmpty) = true := by
        cases ws with
        | nil => cases e1
        | cons _ _ => rfl
      rw [hne]
      refine iteT ?_
      refine ⟨_, rfl, L.p, C, L.dx, _, _, rfl, c5.ins, T.cl, T.nMe, fl_members .., L.me, _, rfl, c5.me, _, _, rfl, rfl, ?_⟩
      have h1296 := R5.mem1296 hA hM
      refine ⟨_, rfl, iteD (show (((dM S.mem).length : Nat) : Int) ≤ 3000 by unfold dM; rw [List.length_map]; omega) ?_⟩
      rw [List.getLast?_map] at e2
      cases ey : S.wait.getLast? with
      | none => rw [ey] at e2; cases e2
      | some y =>
        rw [ey] at e2
        obtain rfl : elL y = x := Option.some.inj e2
        rw [← List.map_dropLast] at e4
        have hyw : y ∈ S.wait := List.mem_of_getLast? ey
        have hy := R5.mR y (R5.wS y hyw)
        have hwl : S.wait.length ≥ 1 := List.length_pos_of_mem hyw
        refine ⟨fun σ H6 => ∃ S' ρ6, Clo C A m L ρ6 H6 S' ∧ TX H H6 ∧ Fr ρ H ρ6 H6 ∧ S' = S.popped.turn A m y ∧ ∃ a b d e g, σ = [some (.ref L.p), a, b, d, e, g], ?_, ?_⟩
        · rintro σ' H6 ⟨S', ρ6, c6, tx6, fr6, rfl, a, b, d, e, g, rfl⟩
          have le6 : Le S.popped (S.popped.turn A m y) := turn_le _ _
          obtain ⟨dd, b1, b2⟩ := turn_bal (A := A) (m := m) S.popped y
          have b1 : (S.popped.turn A m y).mem.length = S.mem.length + dd := b1
          have b3 : S.popped.wait.length = S.wait.length - 1 := List.length_dropLast
          have R6 : Rng A ns k (S.popped.turn A m y) := turn_rng hA hM (popped_rng R5) hy
          have h6 := R6.mem1296 hA hM
          refine ⟨_, ?_, S.popped.turn A m y, ρ6, c6, tx6, fr6, R6, turn_dem (S := S.popped) D5 _, popped_proc ey P5, fun b => le6.e _ _ (g5 b), le6.mem _ m5, rfl, a, b, d, e, g, rfl⟩
          omega
        · obtain ⟨y1, y2, y3, y4⟩ := y
          obtain ⟨hy1, hy2, hy3, hy4⟩ := hy
          have hy1 : Lt (A false).length y1 := hy1
          have hy2 : Lt ns y2 := hy2
          have hy3 : Lt k y3 := hy3
          have hy4 : Lt (A true).length y4 := hy4
          -- l, state, symbol, r = self.waiting.pop()
          obtain ⟨c6, t6⟩ := c5.setWa (ws := ws.dropLast) (l := S.wait.dropLast) e4
          have f6 : Fr ρ5 H5 ρ5 (upd H5 L.wa (.lst (ws.dropLast.map V.ref))) := fr_upd c5.rW (by intro z; cases z)
          refine ⟨_, rfl, L.p, C, L.dx, _, _, rfl, c5.ins, T.cl, T.nWa, fl_waiting .., .inl ⟨rfl, _, SqL.of w1⟩, L.wa, _, _, rfl, rfl, w1, by rw [List.length_map, List.getElem?_map, e1]; rfl, ?_⟩
          rw [← List.map_dropLast]
          have e3' := TN.keep t6 e3
          refine ⟨pa, _, rfl, SqT.of e3', rfl, _, _, rfl, _, _, rfl, _, _, rfl, _, _, rfl, rfl, ?_⟩
          simp only [List.set_cons_zero, List.set_cons_succ]
          -- rule
          obtain ⟨rb, rxs, rc, rys, q1, q2, q3, q4, q5⟩ := c6.mach.at hM hy2 hy3
          obtain ⟨u1, u2, u3, u4⟩ := hM.rlR hy2 hy3
          refine ⟨_, rfl, L.p, C, L.dx, _, _, rfl, c6.ins, T.cl, T.nMach, fl_machine .., _, rfl, L.mach, rxs, _, _, rfl, rfl, SqT.of q1, q2, _, rfl, rb, rys, _, _, rfl, rfl, SqT.of q3, q4, ?_⟩
          simp only [List.set_cons_zero, List.set_cons_succ]
          have c6 : Clo C A m L ρ5 (upd H5 L.wa (.lst (ws.dropLast.map V.ref))) S.popped := c6
          have R6 := popped_rng R5
          have ht : S.popped.turn A m (y1, y2, y3, y4) = if (rl m y2 y3).2.2 = -1 then S.popped else if (rl m y2 y3).2.1 = 1 then S.popped.move A true y1 y4 (rl m y2 y3).1 (rl m y2 y3).2.2 else S.popped.move A false y4 y1 (rl m y2 y3).1 (rl m y2 y3).2.2 := rfl
          rw [ht]
          generalize rl m y2 y3 = u at q5 u1 u2 u3 u4 ⊢
          obtain ⟨v1, v2, v3⟩ := u
          have q5 : upd H5 L.wa (.lst (ws.dropLast.map V.ref)) rc = some (.tup [.int v1, .int v2, .int v3]) := q5
          show _
          refine ⟨_, rfl, rc, _, _, _, rfl, rfl, SqT.of q5, rfl, rfl, ?_⟩
          have tx6 := tx5.trans t6
          have fr6 := fr5.trans f6
          by_cases h3 : v3 = -1
          · rw [if_pos h3]
            refine ⟨_, rfl, iteNS (by rw [h3]) ?_⟩
            exact ⟨S.popped, ρ5, c6, tx6, fr6, rfl, _, _, _, _, _, rfl⟩
          · rw [if_neg h3]
            refine ⟨_, rfl, iteNN (by intro z; cases z; exact h3 rfl) ?_⟩
            have hf : Lt ns v3 := ⟨by have u3 : -1 ≤ v3 := u3; omega, u4⟩
            refine ⟨_, rfl, rc, _, _, _, rfl, rfl, SqT.of q5, rfl, rfl, _, rfl, ?_⟩
            by_cases h2 : v2 = 1
            · rw [if_pos h2]
              refine iteD (by rw [h2]) ?_
              refine ⟨_, rfl, L.p, L.dx, _, rfl, c6.ins, fl_none _ _ _ _ _ _ _ (by decide +kernel) (by decide +kernel) (by decide +kernel) (by decide +kernel) (by decide +kernel) (by decide +kernel) (by decide +kernel), _, rfl, _, rfl, _, rfl,
                L, ρ5, S.popped, true, y1, y4, rc, v1, v2, v3, rfl, c6, R6, hA, hM, q5, hy1, hy4, u1, hf, fun ρ7 H7 t7 c7 fr7 => ?_⟩
              exact ⟨_, ρ7, c7, tx6.trans t7, fr6.trans fr7, rfl, _, _, _, _, _, rfl⟩
            · rw [if_neg h2]
              refine iteDN (by intro z; cases z; exact h2 rfl) ?_
              refine ⟨_, rfl, L.p, L.dx, _, rfl, c6.ins, fl_none _ _ _ _ _ _ _ (by decide +kernel) (by decide +kernel) (by decide +kernel) (by decide +kernel) (by decide +kernel) (by decide +kernel) (by decide +kernel), _, rfl, _, rfl, _, rfl,
                L, ρ5, S.popped, false, y4, y1, rc, v1, v2, v3, rfl, c6, R6, hA, hM, q5, hy4, hy1, u1, hf, fun ρ7 H7 t7 c7 fr7 => ?_⟩
              exact ⟨_, ρ7, c7, tx6.trans t7, fr6.trans fr7, rfl, _, _, _, _, _, rfl⟩
end
end Tac
namespace Tac
open PySem PySem.Spec PyProof.Rows L2 TacR
section
variable {P : Program} {w : World} {K : PySem.W.Frag} {mg : Str → Option Value} {base : Heap}
variable {C : Addr} {A : Bool → AutT} {m : MchT} {ns k : Nat}
theorem fld_K {X : Cx} {K : PySem.W.Frag} {e : Expr} {ta : TE} {f : Str} {pos : Pos} (hk : X.K = K) (he : PE X e ta) (hb : attributeBase e f X.env (eval e X.env) = eval e X.env) : PE X (.Attribute e f pos) (tFld K ta f) := by
  subst hk
  exact pe_fld he hb
def rTupK (K : PySem.W.Frag) : List V → Hp → VK → Prop := fun xs H Q => ∃ p ys, xs = [.ref p] ∧ ((SqL K H p ys ∧ ∀ l, H l = none → Q (.ref l) (upd H l (.tup ys))) ∨ (SqT K H p ys ∧ Q (.ref p) H))
theorem tuple_K {X : Cx} {K : PySem.W.Frag} (e : X.K = K) : CallR X (.type "tuple") (rTupK K) := by
  subst e
  exact call_tuple_of
/-! ### what sorted leaves -/
def dec2 (r : List Int) : Ed := (r[0]?.getD 0, r[1]?.getD 0)
def dec4 (r : List Int) : El := (r[0]?.getD 0, r[1]?.getD 0, r[2]?.getD 0, r[3]?.getD 0)
theorem perm_back {α : Type} {g : α → List Int} {d : List Int → α} (h : ∀ a, d (g a) = a) {rows : List (List Int)} {l : List α} (p : rows.Perm (l.map g)) : ∃ l' : List α, rows = l'.map g ∧ l'.Perm l := by
  refine ⟨rows.map d, ?_, ?_⟩
  · rw [List.map_map]
    refine (List.map_id rows).symm.trans (List.map_congr_left fun r hr => ?_)
    obtain ⟨a, _, rfl⟩ := List.mem_map.mp (p.mem_iff.mp hr)
    show g a = g (d (g a))
    rw [h]
  · have := p.map d
    rw [List.map_map] at this
    have e : l.map (d ∘ g) = l := by
      refine (List.map_congr_left fun a _ => ?_).trans (List.map_id l)
      exact h a
    rwa [e] at this
def Srt (l rows : List (List Int)) : Prop := rows.Perm l ∧ rows.Pairwise (· ≤ ·)
theorem Srt.back {α : Type} {g : α → List Int} {d : List Int → α} (h : ∀ a, d (g a) = a) {rows : List (List Int)} {l : List α} (s : Srt (l.map g) rows) (hn : l.Nodup) : ∃ l' : List α, rows = l'.map g ∧ l'.Perm l ∧ Asc (l'.map g) := by
  obtain ⟨l', e, p⟩ := perm_back h s.1
  refine ⟨l', e, p, ?_⟩
  have h2 := s.2
  rw [e] at h2
  refine asc_of h2 ?_
  refine List.pairwise_map.mpr (List.Pairwise.imp ?_ (p.nodup_iff.mpr hn))
  intro a b ne eq
  exact ne (by rw [← h a, ← h b, eq])
/-- sorted, then a tuple of it -/
theorem srt_new {H : Hp} {p z : Addr} {l : List (List Int)} {ps : List (Addr × List Int)} (hp : H p = none) (hps : ∀ q ∈ ps, TN H q.1 q.2) (h1 : (ps.map (·.2)).Perm l) (h2 : (ps.map (·.2)).Pairwise (· ≤ ·)) (hz : upd H p (.lst (ps.map fun q => V.ref q.1)) z = none) :
    Same H (upd (upd H p (.lst (ps.map fun q => V.ref q.1))) z (.tup (ps.map fun q => V.ref q.1))) ∧ ∃ rows, T2 (upd (upd H p (.lst (ps.map fun q => V.ref q.1))) z (.tup (ps.map fun q => V.ref q.1))) z rows ∧ Srt l rows := by
  have s : Same H (upd (upd H p (.lst (ps.map fun q => V.ref q.1))) z (.tup (ps.map fun q => V.ref q.1))) := (Same.new hp).trans (Same.new hz)
  refine ⟨s, ps.map (·.2), ⟨ps.map (·.1), ?_, ?_⟩, h1, h2⟩
  · rw [List.map_map]
    exact upd_same
  · have : ∀ qs : List (Addr × List Int), (∀ q ∈ qs, TN H q.1 q.2) → Paired (TN (upd (upd H p (.lst (ps.map fun q => V.ref q.1))) z (.tup (ps.map fun q => V.ref q.1)))) (qs.map (·.1)) (qs.map (·.2)) := fun qs => by
      induction qs with
      | nil => exact fun _ => .nil
      | cons q r ih => exact fun h => .cons (TN.keep (TX.same s) (h q (List.mem_cons_self ..))) (ih fun q' hq' => h q' (List.mem_cons_of_mem _ hq'))
    exact this ps hps
theorem keys_dE (l : List Ed) : (dE l).map (·.1) = (l.map edL).map kI := by unfold dE; rw [List.map_map, List.map_map]; rfl
theorem keys_dM (l : List El) : (dM l).map (·.1) = (l.map elL).map kI := by unfold dM; rw [List.map_map, List.map_map]; rfl
theorem ups_unlock {H : Hp} {d : Addr} {o u : HO} (h : H d = some u) : upd (upd H d o) d u = H := by
  funext b
  by_cases e : b = d
  · rw [e, upd_same, h]
  · rw [upd_ne e, upd_ne e]
/-! ### close -/
def spClose (A : Bool → AutT) (m : MchT) (ns k : Nat) : Sp := fun vs H Q _ => ∃ (mach l r : Addr), vs = [.ref mach, .ref l, .ref r] ∧ TM H mach m ∧ T2 H l (A false) ∧ T2 H r (A true) ∧ (∀ b, Aut (A b) k) ∧ Mch m ns k ∧
  (∀ H', Same H H' → Q .non H') ∧ ∀ (v e0 e1 me : Addr) (E : Bool → List Ed) (M : List El) (H' : Hp), Same H H' → CSet H' v l r e0 e1 me A E M → Good A m ns k E M → Q (.ref v) H'
abbrev nClose : List Str := ["machine", "left", "right", "closing", "_", "state", "symbol", "edges", "side"]
theorem scClose : FnScope nClose ["machine", "left", "right"] (defScope (top 14)) := ⟨rfl, rfl, rfl, by decide +kernel, rfl, by decide +kernel, by decide +kernel⟩
theorem ok_close {f fI fM : Addr} {fd fdI fdM : FuncData} (F : FnP K "close" "close" (top 14) f fd) (G : Gx mg) (T : Tx K C) (MK : Mk K C fI) (gC : mg "Closing" = some (.ref C))
    (FI : FnP K "__init__" "Closing.__init__" (inClass (top 13) 0) fI fdI)
    (FM : FnP K "close" "Closing.close" (inClass (top 13) 5) fM fdM) (mM : Meth K C "close" fM)
    (GM : FnOk P w K mg base CX0 5 fM fdM ["self"] (spCloseM C A m ns k)) : FnOk P w K mg base CX0 6 f fd ["machine", "left", "right"] (spClose A m ns k) := by
  have GI : FnOk P w K mg base CX0 1 fI fdI ["self", "machine", "left", "right"] (spInit C A m) := ok_init FI T
  have bI : Binds K fdI ["self", "machine", "left", "right"] [] := FI.bindsN fun _ _ _ _ _ _ us hl => match us, hl with | [_, _, _, _], _ => rfl
  have bM : Binds K fdM ["self"] [] := FM.bindsN fun _ _ _ _ _ _ us hl => match us, hl with | [_], _ => rfl
  obtain ⟨tS, hS⟩ := G.stop
  obtain ⟨tO, hO⟩ := G.elems
  refine F.ok scClose (fun vs H Q E h => ?_) (fun cdv A' outer s H vs Q E' hr h => ?_)
  · obtain ⟨mach, l, r, rfl, _⟩ := h
    rfl
  · obtain ⟨mach, l, r, rfl, hm, hl, hr', hA, hM, q1, q2⟩ := h
    have hr2 : Room 2 _ := hr.mono (by decide)
    have hu0 : (A'.deeper (envOfC "close" (defScope (top 14)) s.heap.objs.size f cdv)).units + 64 < cLine := by have := hr.un; omega
    refine ⟨_, pss_cons (ps_set (i := 3) scClose.nd rfl (Or.inr rfl) (pe_make MK GI hr2 (by rfl) gC bI .nil pass0 (pa_cons (pv 0) (pa_cons (pv 1) (pa_cons (pv 2) pa_nil)))))
      (pss_cons (ps_expr (pe_meth0 (pv 3) T.cl mM GM hr bM .nil pass0))
      (pss_cons (ps_if (pt_cmpR op_gt (pe_callB call_len_dT (by rfl) G.len PySem.boot_len (pa_cons (pe_fld (pv 3) rfl) pa_nil)) (pe_glob (v := .int 3000) rfl hO ⟨_, rfl⟩) (nomark _)) pss_never pss_nil)
      (pss_cons (ps_lock (ps_for PassesOwn.never rfl (pi_keys (pe_fld (pv 3) rfl)) (pg_tup rfl (pgs_cons (pg_name (i := 4) scClose.nd rfl (Or.inl rfl)) (pgs_cons (pg_name (i := 5) scClose.nd rfl (Or.inl rfl)) (pgs_cons (pg_name (i := 6) scClose.nd rfl (Or.inl rfl)) (pgs_cons (pg_name (i := 4) scClose.nd rfl (Or.inl rfl)) pgs_nil)))))
        (pss_one (ps_if (pt_cmpR op_eq (pe_ix (ixT_K (K := K) rfl) (pe_ix (ixT_K (K := K) rfl) (pe_ix (ixT_K (K := K) rfl) (pv 0) (pv 5) (fun _ _ => rfl)) (pv 6) (fun _ _ => rfl)) pe_int (fun _ _ => rfl)) (pe_glob (v := .int (-1)) rfl hS ⟨_, rfl⟩) (nomark _))
          (pss_one (ps_ret pe_non)) pss_nil))))
      (pss_cons (ps_setLc (i := 7) (own := [("side", 8)]) (g := gName 8) (tt := tYes) rfl scClose.nd rfl rfl (sw_true rfl rfl rfl (by decide +kernel)) (pi_tup (pe_tup (pa_cons pe_int (pa_cons pe_int pa_nil)))) (blkOk_by (N := nClose) (sc := defScope (top 14)) (by decide +kernel))
        (fun _ _ _ _ _ => pg_name (i := 8) scClose.nd rfl (Or.inl rfl)) (fun _ _ _ _ _ => pts_nil)
        (fun _ _ _ _ _ => pe_callTy (tuple_K (K := K) rfl) (by rfl) G.tuple (by decide +kernel) (pa_cons (pe_callB (call_sortT rfl hu0) (by rfl) G.sorted (by decide +kernel) (pa_cons (pe_ix (ixT_K (K := K) rfl) (fld_K (K := K) rfl (pv 3) rfl) (pv 8) (fun _ _ => rfl)) pa_nil)) pa_nil)))
      (pss_one (ps_ret (pe_tup (pa_cons (pv 1) (pa_cons (pv 2) (pa_cons (pe_ix (ixL_K (K := K) rfl) (pv 7) pe_int (fun _ _ => rfl)) (pa_cons (pe_ix (ixL_K (K := K) rfl) (pv 7) pe_int (fun _ _ => rfl))
        (pa_cons (pe_callTy (tuple_K (K := K) rfl) (by rfl) G.tuple (by decide +kernel) (pa_cons (pe_callB (call_sortT rfl hu0) (by rfl) G.sorted (by decide +kernel) (pa_cons (pe_fld (pv 3) rfl) pa_nil)) pa_nil)) pa_nil)))))))))))), ?_⟩
    rw [show L2.start nClose [V.ref mach, V.ref l, V.ref r] = [some (V.ref mach), some (V.ref l), some (V.ref r), none, none, none, none, none, none] from rfl]
    refine ⟨_, rfl, _, rfl, _, rfl, fun p dx hp hdx hne => ?_⟩
    have s0 : Same H (upd (upd H dx (.own p)) p (.ins C dx [])) := (Same.new hdx).trans (Same.new (by rw [upd_ne hne.symm]; exact hp))
    have np : ∀ z o, H z = some o → z ≠ p := fun z o h => ne_of_none h hp
    refine ⟨p, dx, mach, l, r, rfl, upd_same, hm.keep (TX.same s0), hl.keep (TX.same s0), hr'.keep (TX.same s0), fun L ρ H1 hLp hLm hL0 hL1 c fr => ⟨rfl, ?_⟩⟩
    subst hLp hLm hL0 hL1
    have s1 : ∀ z o, H z = some o → H1 z = some o ∧ ρ z = .oth := fun z o h => fr z o (s0 z o h) (np z o h)
    simp only [List.set_cons_zero, List.set_cons_succ]
    -- closing.close()
    refine ⟨_, rfl, L.p, L.dx, _, rfl, c.ins, fl_none _ _ _ _ _ _ _ (by decide +kernel) (by decide +kernel) (by decide +kernel) (by decide +kernel) (by decide +kernel) (by decide +kernel) (by decide +kernel), L, ρ, rfl, c, hA, hM, fun S ρ2 H2 t2 c2 fr2 R D Pr hw h00 h0000 => ?_⟩
    have s2 : Same H H2 := fun z o h => (fr2 z o (s1 z o h).1 (s1 z o h).2).1
    have h1296 := R.mem1296 hA hM
    have lenM : (dM S.mem).length = S.mem.length := by unfold dM; rw [List.length_map]
    -- if len(closing.members) > MOST_ELEMENTS
    refine ⟨_, rfl, L.p, C, L.dx, _, _, rfl, c2.ins, T.cl, T.nMe, fl_members .., L.me, _, rfl, c2.me, _, _, rfl, rfl, _, rfl, iteDN (show ¬ (3000 : Int) < (((dM S.mem).length : Nat) : Int) by omega) ?_⟩
    clear c fr2 t2 fr s1
    -- for _, state, symbol, _ in closing.members
    refine ⟨L.me, _, c2.me, trivial, fun od => ?_⟩
    have tl : TX H2 (upd H2 L.me (.frz od (.dT (dM S.mem)))) := TX.mut c2.me (by intro xs z; cases z)
    have insL : upd H2 L.me (.frz od (.dT (dM S.mem))) L.p = some (.ins C L.dx (flds L.mach L.aut L.edT L.inT L.me L.wa L.akT)) := by
      rw [upd_ne (ne_of c2.ins c2.me (by intro z; cases z))]
      exact c2.ins
    refine ⟨_, rfl, L.p, C, L.dx, _, _, rfl, insL, T.cl, T.nMe, fl_members .., L.me, od, rfl, .inr ⟨_, upd_same, ?_⟩⟩
    refine for_it walk_keysT (fun i σ H' => H' = upd H2 L.me (.frz od (.dT (dM S.mem))) ∧ (∀ x ∈ S.mem.take i, (rl m x.2.1 x.2.2.1).2.2 ≠ -1) ∧ ∃ a b d, σ = [some (.ref L.mach), some (.ref (L.au false)), some (.ref (L.au true)), some (.ref L.p), a, b, d, none, none])
      ⟨rfl, (by rw [List.take_zero]; exact fun _ h => nomatch h), none, none, none, rfl⟩ (fun i σ H' _ pv => by rw [pv.1]; exact upd_same) ?_ ?_
    · rintro i x σ H' H'' hi ⟨rfl, hgo, a, b, d, rfl⟩ ⟨rfl, key, val, qa, hk1, rfl, hk2⟩
      rw [lenM] at hi
      have hkx : (dM S.mem)[i]? = some (kI (elL S.mem[i]), V.bl true) := by unfold dM; rw [List.getElem?_map, List.getElem?_eq_getElem hi]; rfl
      rw [hkx] at hk1
      obtain ⟨e1, e2⟩ := Prod.mk.inj (Option.some.inj hk1)
      rw [← e1, kI_kV] at hk2
      have hmem : S.mem[i] ∈ S.mem := List.getElem_mem hi
      have htk : S.mem.take (i + 1) = S.mem.take i ++ [S.mem[i]] := List.take_succ_eq_append_getElem hi
      generalize S.mem[i] = y at hk2 hmem htk
      obtain ⟨y1, y2, y3, y4⟩ := y
      have hk2 : upd H2 L.me (.frz od (.dT (dM S.mem))) qa = some (.tup [.int y1, .int y2, .int y3, .int y4]) := hk2
      obtain ⟨hy1, hy2, hy3, hy4⟩ := R.mR _ hmem
      have hy2 : Lt ns y2 := hy2
      have hy3 : Lt k y3 := hy3
      refine ⟨qa, _, rfl, SqT.of hk2, rfl, _, _, rfl, _, _, rfl, _, _, rfl, _, _, rfl, rfl, ?_⟩
      simp only [List.set_cons_zero, List.set_cons_succ]
      obtain ⟨rb, rxs, rc, rys, w1, w2, w3, w4, w5⟩ := (c2.mach.keep tl).at hM hy2 hy3
      have w5 : upd H2 L.me (.frz od (.dT (dM S.mem))) rc = some (.tup [.int (rl m y2 y3).1, .int (rl m y2 y3).2.1, .int (rl m y2 y3).2.2]) := w5
      refine ⟨_, rfl, _, rfl, L.mach, rxs, _, _, rfl, rfl, SqT.of w1, w2, _, rfl, rb, rys, _, _, rfl, rfl, SqT.of w3, w4, rc, _, _, _, rfl, rfl, SqT.of w5, rfl, rfl, _, rfl, ?_⟩
      by_cases h3 : (rl m y2 y3).2.2 = -1
      · refine iteD (by rw [h3]) ?_
        refine ⟨upd_same, ?_⟩
        rw [ups_unlock c2.me]
        exact q1 H2 s2
      · refine iteDN (by intro z; exact h3 (V.int.inj z)) ?_
        refine ⟨rfl, fun x hx => ?_, _, _, _, rfl⟩
        rw [htk] at hx
        rcases List.mem_append.mp hx with hx | hx
        · exact hgo x hx
        · rw [List.mem_singleton.mp hx]
          exact h3
    · rintro σ H' ⟨rfl, hgo, a, b, d, rfl⟩
      refine ⟨upd_same, ?_⟩
      rw [ups_unlock c2.me]
      rw [lenM, List.take_length] at hgo
      clear insL tl
      -- edges
      refine ⟨sz1000 (by show 2 ≤ 100000; decide), fun tp n3 => ?_⟩
      have s3 : Same H2 (upd H2 tp (.tup [.int 0, .int 1])) := Same.new n3
      have c3 := c2.same s3
      refine ⟨tp, rfl, ⟨_, SqT.of upd_same⟩, fun LD hLD => lc_tup (K := K) (a := tp) (xs := [.int 0, .int 1]) (fun i H' => Same (upd H2 tp (.tup [.int 0, .int 1])) H' ∧ ∃ zs : List Addr, H' LD = some (.lst (zs.map V.ref)) ∧
          Paired (fun z b => ∃ rows, T2 H' z rows ∧ Srt ((S.e b).map edL) rows) zs ([false, true].take i)) ⟨Same.new hLD, [], upd_same, .nil⟩ (fun i H' _ pp => SqT.of (pp.1 _ _ upd_same)) ?_ ?_⟩
      · rintro i x H4 hx ⟨s4, zs, hz1, hz2⟩
        have hsd : ∃ b, x = .int (sd b) ∧ [false, true].take (i + 1) = [false, true].take i ++ [b] := by
          match i, hx with
          | 0, hx => exact ⟨false, (Option.some.inj hx).symm, rfl⟩
          | 1, hx => exact ⟨true, (Option.some.inj hx).symm, rfl⟩
          | i + 2, hx => exact nomatch hx
        obtain ⟨b, rfl, htk⟩ := hsd
        have c4 := c3.same s4
        have hzl : zs.length ≤ 2 := by rw [Paired.length hz2, List.length_take]; exact Nat.min_le_right _ _
        refine ⟨rfl, yesT ?_⟩
        refine ⟨_, rfl, L.p, C, L.dx, _, _, rfl, c4.ins, T.cl, T.nEd, fl_edges .., _, rfl, L.edT, _, _, _, rfl, rfl, SqT.of c4.edT, at_sd L.ed b, L.ed b, _, _, rfl, .inl (c4.ed b), keys_dE _, ?_, fun ps p5 n5 hps hp1 hp2 => ?_⟩
        · intro kk hk
          obtain ⟨e, _, rfl⟩ := List.mem_map.mp hk
          intro z
          cases z
        · refine ⟨p5, _, rfl, .inl ⟨SqL.of upd_same, fun z n6 => ?_⟩⟩
          obtain ⟨s7, rows, hr1, hr2⟩ := srt_new n5 hps hp1 hp2 n6
          have hz1' := s7 _ _ hz1
          refine ⟨_, hz1', szlt (by rw [List.length_map]; omega), ?_⟩
          have s8 := Same.mut (o := .lst (zs.map V.ref ++ [.ref z])) (s4.trans s7) hLD
          have tx : TX H4 (upd (upd (upd H4 p5 (.lst (ps.map fun q => V.ref q.1))) z (.tup (ps.map fun q => V.ref q.1))) LD (.lst (zs.map V.ref ++ [.ref z]))) := (TX.same s7).trans (TX.mut hz1' (by intro xs z; cases z))
          refine ⟨s8, zs ++ [z], by rw [upd_same, refs_snoc], ?_⟩
          rw [htk]
          refine paired_snoc (Paired.mono (fun z b ⟨rows, g1, g2⟩ => ⟨rows, g1.keep tx, g2⟩) hz2) ⟨rows, hr1.keep (TX.mut hz1' (by intro xs z; cases z)), hr2⟩
      · rintro H4 ⟨s4, zs, hz1, hz2⟩
        have c4 := c3.same s4
        obtain ⟨z0, z1, rfl, ⟨rows0, t0, o0⟩, rows1, t1, o1⟩ : ∃ z0 z1, zs = [z0, z1] ∧ (∃ rows, T2 H4 z0 rows ∧ Srt ((S.e false).map edL) rows) ∧ ∃ rows, T2 H4 z1 rows ∧ Srt ((S.e true).map edL) rows := by
          cases hz2 with
          | cons a1 a2 =>
            cases a2 with
            | cons b1 b2 =>
              cases b2
              exact ⟨_, _, rfl, a1, b1⟩
        simp only [List.set_cons_zero, List.set_cons_succ]
        refine ⟨_, rfl, _, rfl, _, rfl, LD, _, _, _, rfl, rfl, SqL.of hz1, rfl, _, rfl, LD, _, _, _, rfl, rfl, SqL.of hz1, rfl, ?_⟩
        refine ⟨_, rfl, L.p, C, L.dx, _, _, rfl, c4.ins, T.cl, T.nMe, fl_members .., L.me, _, _, rfl, .inl c4.me, keys_dM _, ?_, fun ps p5 n5 hps hp1 hp2 => ?_⟩
        · intro kk hk
          obtain ⟨e, _, rfl⟩ := List.mem_map.mp hk
          intro z
          cases z
        · refine ⟨p5, _, rfl, .inl ⟨SqL.of upd_same, fun z n6 => ?_⟩⟩
          obtain ⟨s7, rowsM, t2, o2⟩ := srt_new n5 hps hp1 hp2 n6
          generalize upd (upd H4 p5 (.lst (ps.map fun q => V.ref q.1))) z (.tup (ps.map fun q => V.ref q.1)) = H7 at s7 t2 ⊢
          refine ⟨sz1000 (by show 5 ≤ 100000; decide), fun v n8 => ?_⟩
          have s8 : Same H7 (upd H7 v (.tup [.ref (L.au false), .ref (L.au true), .ref z0, .ref z1, .ref z])) := Same.new n8
          obtain ⟨l0, e0, p0, a0⟩ := o0.back (d := dec2) (fun _ => rfl) (R.eN false)
          obtain ⟨l1, e1, p1, a1⟩ := o1.back (d := dec2) (fun _ => rfl) (R.eN true)
          obtain ⟨lM, e2, p2, a2⟩ := o2.back (d := dec4) (fun _ => rfl) R.mN
          subst e0 e1 e2
          have t78 := (TX.same s7).trans (TX.same s8)
          refine q2 v z0 z1 z (fun b => if b = true then l1 else l0) lM _ (s2.trans (s3.trans (s4.trans (s7.trans s8)))) ⟨upd_same, (c4.au false).keep t78, (c4.au true).keep t78, t0.keep t78, t1.keep t78, t2.keep (TX.same s8)⟩ ?_
          refine ⟨Right.of hA hM R D Pr hw h00 h0000 hgo (fun b pp => ?_) (fun x => p2.mem_iff), fun b => ?_, a2, fun b => ?_, by rw [p2.length_eq]; omega⟩
          · cases b with
            | true => exact p1.mem_iff
            | false => exact p0.mem_iff
          · cases b with
            | true => exact a1
            | false => exact a0
          · have h1 := R.eLen b
            have h2 := mul_le_of (hA b).le hM.kHi
            cases b with
            | true => show l1.length ≤ 3000; rw [p1.length_eq]; omega
            | false => show l0.length ≤ 3000; rw [p0.length_eq]; omega
end
end Tac
namespace Tac
open PySem PySem.Spec PyProof.Rows L2 TacR
section
variable {P : Program} {w : World} {K : PySem.W.Frag} {mg : Str → Option Value} {base : Heap}
/-! ### the law's stream -/
def NS (o : HO) : Prop := ∀ (sa : Addr) (c i x : Int), o ≠ .lst [.ref sa, .int c, .int i, .int x]
theorem ns_ints (us : List Int) : NS (.lst (us.map V.int)) := fun sa c i x e => by
  cases us with
  | nil => cases e
  | cons u r => cases e
theorem ns_refs (as : List Addr) : NS (.lst (as.map V.ref)) := fun sa c i x e => by
  match as, e with
  | [], e => cases e
  | [_], e => cases e
  | _ :: _ :: _, e => cases e
theorem ns_tup (xs : List V) : NS (.tup xs) := fun _ _ _ _ e => nomatch e
theorem ns_dK (kvs : List (Key × V)) : NS (.dK kvs) := fun _ _ _ _ e => nomatch e
/-- all stays but streams -/
structure Dr (H H' : Hp) : Prop where
  keep : ∀ z o, H z = some o → NS o → H' z = some o
  dom : ∀ z, H' z = none → H z = none
theorem Dr.refl (H : Hp) : Dr H H := ⟨fun _ _ h _ => h, fun _ h => h⟩
theorem Dr.trans {H H1 H2 : Hp} (a : Dr H H1) (b : Dr H1 H2) : Dr H H2 := ⟨fun z o h n => b.keep z o (a.keep z o h n) n, fun z h => a.dom z (b.dom z h)⟩
theorem Dr.same {H H' : Hp} (s : Same H H') : Dr H H' := ⟨fun z o h _ => s z o h, fun _ h => s.free h⟩
theorem Dr.tx {H H' : Hp} (d : Dr H H') : TX H H' := fun z xs h => d.keep z _ h (ns_tup xs)
/-- a thing of one's own is written -/
theorem Dr.mut {H H' : Hp} {z : Addr} {o : HO} (d : Dr H H') (hz : H z = none) : Dr H (upd H' z o) := ⟨fun y u h n => by
  rw [upd_ne (ne_of_none h hz)]
  exact d.keep y u h n, fun y h => d.dom y (by
  by_cases e : y = z
  · rw [e, upd_same] at h
    cases h
  · rw [upd_ne e] at h
    exact h)⟩
def St (H : Hp) (a sa : Addr) : Prop := ∃ (us : List Int) (cur idx mix : Int), H a = some (.lst [.ref sa, .int cur, .int idx, .int mix]) ∧ H sa = some (.lst (us.map V.int)) ∧ 0 ≤ cur ∧ 0 ≤ idx
theorem St.same {H H' : Hp} {a sa : Addr} (h : St H a sa) (s : Same H H') : St H' a sa := by
  obtain ⟨us, cur, idx, mix, h1, h2, h3, h4⟩ := h
  exact ⟨us, cur, idx, mix, s _ _ h1, s _ _ h2, h3, h4⟩
/-- a new place is none of the stream's -/
theorem St.new {H : Hp} {a sa z : Addr} (h : St H a sa) (hz : H z = none) : a ≠ z ∧ sa ≠ z := by
  obtain ⟨us, cur, idx, mix, h1, h2, _⟩ := h
  exact ⟨ne_of_none h1 hz, ne_of_none h2 hz⟩
theorem St.upd {H : Hp} {a sa z : Addr} {o : HO} (h : St H a sa) (n : a ≠ z ∧ sa ≠ z) : St (upd H z o) a sa := by
  obtain ⟨us, cur, idx, mix, h1, h2, h3, h4⟩ := h
  exact ⟨us, cur, idx, mix, by rw [upd_ne n.1]; exact h1, by rw [upd_ne n.2]; exact h2, h3, h4⟩
/-! ### _law_stream -/
def spStream (K : PySem.W.Frag) : Sp := fun vs H Q _ => ∃ (a : Addr) (ns : List Int), vs = [.ref a] ∧ SqL K H a (ns.map V.int) ∧ ∀ z sa H', Same H H' → St H' z sa → Q (.ref z) H'
theorem scStream : FnScope ["_law_script", "_law_mixed", "_law_cell"] ["_law_script"] (defScope (top 18)) := ⟨rfl, rfl, rfl, by decide +kernel, rfl, by decide +kernel, by decide +kernel⟩
theorem ok_stream {f : Addr} {fd : FuncData} (F : FnP K "_law_stream" "_law_stream" (top 18) f fd) (G : Gx mg) : FnOk P w K mg base CX0 1 f fd ["_law_script"] (spStream K) := by
  refine F.ok scStream (fun vs H Q E h => ?_) (fun cdv A' outer s H vs Q E' hr h => ?_)
  · obtain ⟨a, ns, rfl, _⟩ := h
    rfl
  · obtain ⟨a, ns, rfl, hs, q⟩ := h
    refine ⟨_, pss_cons (ps_set (i := 1) scStream.nd rfl (Or.inl rfl) pe_int)
      (pss_cons (ps_for PassesOwn.never rfl (pi_list (pv 0)) (pg_name (i := 2) scStream.nd rfl (Or.inl rfl))
        (pss_one (ps_set (i := 1) scStream.nd rfl (Or.inl rfl) (pe_op op_mod (pe_callTy call_int1 (by rfl) G.int (by decide +kernel) (pa_cons (pe_op op_add (pe_op op_add (pe_op op_mul (pv 1) pe_int) (pe_op op_mod (pe_callTy call_int1 (by rfl) G.int (by decide +kernel) (pa_cons (pv 2) pa_nil)) pe_int)) pe_int) pa_nil)) pe_int))))
      (pss_one (ps_ret (pe_lst (pa_cons (pe_callTy call_list_of (by rfl) G.list (by decide +kernel) (pa_cons (pv 0) pa_nil)) (pa_cons pe_int (pa_cons pe_int (pa_cons (pv 1) pa_nil)))))))), ?_⟩
    rw [show L2.start ["_law_script", "_law_mixed", "_law_cell"] [V.ref a] = [some (V.ref a), none, none] from rfl]
    simp only [List.set_cons_zero, List.set_cons_succ]
    refine ⟨_, rfl, a, rfl, ⟨_, hs⟩, for_list (K := K) (a := a) (xs := ns.map V.int) (fun i σ H' => H' = H ∧ ∃ (x : Int) (u : Option V), σ = [some (.ref a), some (.int x), u]) ⟨rfl, 17, none, rfl⟩ (fun i σ H' _ pv => by rw [pv.1]; exact hs) ?_ ?_⟩
    · rintro i x σ H' hx ⟨rfl, y, u, rfl⟩
      rw [List.getElem?_map] at hx
      cases hz : ns[i]? with
      | none => rw [hz] at hx; cases hx
      | some z =>
        rw [hz] at hx
        obtain rfl : V.int z = x := Option.some.inj hx
        refine ⟨_, rfl, ?_⟩
        refine ⟨_, _, rfl, rfl, .inr (by decide), ?_⟩
        refine ⟨_, rfl, .inl ⟨_, rfl, _, _, rfl, rfl, (show (0 : Int) < 65521 by decide), _, _, rfl, rfl, _, _, rfl, rfl, .inl ⟨_, rfl, _, _, rfl, rfl, (show (0 : Int) < 2147483647 by decide), rfl, _, _, rfl⟩⟩⟩
    · rintro σ H' ⟨rfl, y, u, rfl⟩
      refine ⟨_, rfl, a, _, rfl, .inl hs, fun l hl => ⟨_, rfl, ?_⟩⟩
      refine ⟨sz1000 (by show 4 ≤ 100000; decide), fun z hz => ?_⟩
      have s1 : Same H' (upd H' l (.lst (ns.map V.int))) := Same.new hl
      have s2 : Same (upd H' l (.lst (ns.map V.int))) (upd (upd H' l (.lst (ns.map V.int))) z (.lst [.ref l, .int 0, .int 0, .int y])) := Same.new hz
      exact q z l _ (s1.trans s2) ⟨ns, 0, 0, y, upd_same, s2 _ _ upd_same, Int.le_refl _, Int.le_refl _⟩
/-! ### _law_draw -/
def spDraw : Sp := fun vs H Q _ => ∃ (a sa : Addr) (n : Int), vs = [.ref a, .int n] ∧ St H a sa ∧ 0 < n ∧ n < 1000 ∧ ∀ (v : Int) H', 0 ≤ v → v < n → Dr H H' → St H' a sa → Q (.int v) H'
theorem scDraw : FnScope ["_law_stream_here", "_law_many", "_law_value"] ["_law_stream_here", "_law_many"] (defScope (top 19)) := ⟨rfl, rfl, rfl, by decide +kernel, rfl, by decide +kernel, by decide +kernel⟩
/-- a field of the stream is written -/
theorem dr_put {H : Hp} {a sa : Addr} {c i x : Int} (h : H a = some (.lst [.ref sa, .int c, .int i, .int x])) (o : HO) : Dr H (upd H a o) := ⟨fun z u hz n => by
  rw [upd_ne (ne_of hz h (n sa c i x))]
  exact hz, fun y e => by
  by_cases q : y = a
  · rw [q, upd_same] at e
    cases e
  · rwa [upd_ne q] at e⟩
theorem ok_draw {f : Addr} {fd : FuncData} (F : FnP K "_law_draw" "_law_draw" (top 19) f fd) (G : Gx mg) : FnOk P w K mg base CX0 1 f fd ["_law_stream_here", "_law_many"] spDraw := by
  refine F.ok scDraw (fun vs H Q E h => ?_) (fun cdv A' outer s H vs Q E' hr h => ?_)
  · obtain ⟨a, sa, n, rfl, _⟩ := h
    rfl
  · obtain ⟨a, sa, n, rfl, hst, n0, n1, q⟩ := h
    refine ⟨_, Evl.pss_cut (ps_if (PW.pt (pw_and (pt_cmpR op_eq (pe_ix (ixL_K (K := K) rfl) (pv 0) pe_int (fun _ _ => rfl)) pe_int (nomark _)) (pw_and1 (pt_cmpR op_lt (pe_ix (ixL_K (K := K) rfl) (pv 0) pe_int (fun _ _ => rfl)) (pe_callB (len_K (K := K) rfl) (by rfl) G.len PySem.boot_len (pa_cons (pe_ix (ixL_K (K := K) rfl) (pv 0) pe_int (fun _ _ => rfl)) pa_nil)) (nomark _)))))
        (pss_cons (ps_asg (pe_callB call_abs (by rfl) G.abs (by decide +kernel) (pa_cons (pe_callTy call_int1 (by rfl) G.int (by decide +kernel) (pa_cons (pe_ix (ixL_K (K := K) rfl) (pe_ix (ixL_K (K := K) rfl) (pv 0) pe_int (fun _ _ => rfl)) (pe_ix (ixL_K (K := K) rfl) (pv 0) pe_int (fun _ _ => rfl)) (fun _ _ => rfl)) pa_nil)) pa_nil)) (pg_sub (pv 0) pe_int set_list))
        (pss_one (ps_asg (pe_op op_add (pe_ix (ixL_K (K := K) rfl) (pv 0) pe_int (fun _ _ => rfl)) pe_int) (pg_sub (pv 0) pe_int set_list)))) pss_nil)
      (pss_cons (ps_if (pt_cmpR op_eq (pe_ix (ixL_K (K := K) rfl) (pv 0) pe_int (fun _ _ => rfl)) pe_int (nomark _))
        (pss_cons (ps_asg (pe_op op_mod (pe_callTy call_int1 (by rfl) G.int (by decide +kernel) (pa_cons (pe_op op_add (pe_op op_mul (pe_ix (ixL_K (K := K) rfl) (pv 0) pe_int (fun _ _ => rfl)) pe_int) pe_int) pa_nil)) pe_int) (pg_sub (pv 0) pe_int set_list))
        (pss_one (ps_ret (pe_op op_mod (pe_callTy call_int1 (by rfl) G.int (by decide +kernel) (pa_cons (pe_op op_fdiv (pe_ix (ixL_K (K := K) rfl) (pv 0) pe_int (fun _ _ => rfl)) pe_int) pa_nil)) (pv 1))))) pss_nil)
      (pss_cons (ps_set (i := 2) scDraw.nd rfl (Or.inl rfl) (pe_op op_mod (pe_callTy call_int1 (by rfl) G.int (by decide +kernel) (pa_cons (pe_ix (ixL_K (K := K) rfl) (pv 0) pe_int (fun _ _ => rfl)) pa_nil)) (pv 1)))
      (pss_cons (ps_asg (pe_op op_fdiv (pe_ix (ixL_K (K := K) rfl) (pv 0) pe_int (fun _ _ => rfl)) (pv 1)) (pg_sub (pv 0) pe_int set_list))
      (pss_one (ps_ret (pv 2)))))), ?_⟩
    rw [show L2.start ["_law_stream_here", "_law_many", "_law_value"] [V.ref a, V.int n] = [some (V.ref a), some (V.int n), none] from rfl]
    refine ⟨fun σ' H' => σ' = [some (.ref a), some (.int n), none] ∧ Dr H H' ∧ St H' a sa, ?_, ?_⟩
    · obtain ⟨us, cur, idx, mix, h1, h2, h3, h4⟩ := id hst
      refine ⟨_, rfl, a, _, _, _, rfl, rfl, SqL.of h1, rfl, rfl, _, rfl, ?_⟩
      by_cases hc : cur = 0
      · refine iteD (by rw [hc]) ?_
        refine ⟨_, rfl, a, _, _, _, rfl, rfl, SqL.of h1, rfl, _, rfl, a, _, _, _, rfl, rfl, SqL.of h1, rfl, sa, _, rfl, .inl (SqL.of h2), _, _, rfl, rfl, _, rfl, ?_⟩
        rw [List.length_map]
        by_cases hi : idx < (us.length : Int)
        · refine iteD hi ?_
          have hi2 : idx.toNat < us.length := by omega
          refine ⟨_, rfl, a, _, _, _, rfl, rfl, SqL.of h1, rfl, _, rfl, a, _, _, _, rfl, rfl, SqL.of h1, rfl, sa, _, _, _, rfl, rfl, SqL.of h2, atI_lt h4 (by rw [List.getElem?_map, List.getElem?_eq_getElem hi2]; rfl), .inl ⟨_, rfl, _, rfl, ?_⟩⟩
          refine ⟨_, rfl, a, _, 1, 1, rfl, rfl, h1, rfl, ?_⟩
          have nsa : sa ≠ a := ne_of h2 h1 (ns_ints us _ _ _ _)
          refine ⟨_, rfl, a, _, _, _, rfl, rfl, SqL.of upd_same, rfl, _, _, rfl, rfl, _, rfl, a, _, 2, 2, rfl, rfl, upd_same, rfl, rfl, ?_, ?_⟩
          · rw [upd_upd]
            exact dr_put h1 _
          · rw [upd_upd]
            refine ⟨us, _, _, _, upd_same, by rw [upd_ne nsa]; exact h2, ?_, ?_⟩
            · split <;> omega
            · show 0 ≤ idx + 1
              omega
        · exact iteDN hi ⟨rfl, Dr.refl H, hst⟩
      · refine iteDN (by intro z; exact hc (V.int.inj z)) ?_
        exact iteF ⟨rfl, Dr.refl H, hst⟩
    · rintro σ' H1 ⟨rfl, d1, hst1⟩
      clear hst
      obtain ⟨us, cur, idx, mix, h1, h2, h3, h4⟩ := id hst1
      have nsa : sa ≠ a := ne_of h2 h1 (ns_ints us _ _ _ _)
      refine ⟨_, rfl, a, _, _, _, rfl, rfl, SqL.of h1, rfl, rfl, _, rfl, ?_⟩
      by_cases hc : cur = 0
      · refine iteD (by rw [hc]) ?_
        refine ⟨_, rfl, a, _, _, _, rfl, rfl, SqL.of h1, rfl, _, _, rfl, rfl, .inr (by decide), _, _, rfl, rfl, .inl ⟨_, rfl, _, _, rfl, rfl, (show (0 : Int) < 2147483647 by decide), _, rfl, a, _, 3, 3, rfl, rfl, h1, rfl, ?_⟩⟩
        refine ⟨_, rfl, a, _, _, _, rfl, rfl, SqL.of upd_same, rfl, _, _, rfl, rfl, (show (0 : Int) < 97 ∧ (97 : Int) < 1073741824 by decide), .inl ⟨_, rfl, _, rfl, _, _, rfl, rfl, n0, ?_⟩⟩
        refine q _ _ (Int.emod_nonneg _ (by omega)) (Int.emod_lt_of_pos _ n0) (d1.trans (dr_put h1 _)) ⟨us, _, _, _, upd_same, by rw [upd_ne nsa]; exact h2, h3, h4⟩
      · refine iteDN (by intro z; exact hc (V.int.inj z)) ?_
        refine ⟨_, rfl, a, _, _, _, rfl, rfl, SqL.of h1, rfl, .inl ⟨_, rfl, _, rfl, _, _, rfl, rfl, n0, ?_⟩⟩
        refine ⟨_, rfl, a, _, _, _, rfl, rfl, SqL.of h1, rfl, _, rfl, _, _, rfl, rfl, ⟨n0, by omega⟩, _, rfl, a, _, 1, 1, rfl, rfl, h1, rfl, ?_⟩
        refine ⟨_, rfl, ?_⟩
        refine q _ _ (Int.emod_nonneg _ (by omega)) (Int.emod_lt_of_pos _ n0) (d1.trans (dr_put h1 _)) ⟨us, _, _, _, upd_same, by rw [upd_ne nsa]; exact h2, Int.ediv_nonneg h3 (by omega), h4⟩
end
end Tac
namespace Tac
open PySem PySem.Spec PyProof.Rows L2 TacR
section
variable {P : Program} {w : World} {K : PySem.W.Frag} {mg : Str → Option Value} {base : Heap}
variable {ns k : Nat}
/-! ### machines in the making -/
def OkR (ns k : Nat) (u : Rl) : Prop := Lt k u.1 ∧ (u.2.1 = 1 ∨ u.2.1 = -1) ∧ -1 ≤ u.2.2 ∧ u.2.2 < (ns : Int)
def Rs (H : Hp) (ns k : Nat) (bs : List Addr) : Prop := ∀ c ∈ bs, ∃ u, TN H c (rlL u) ∧ OkR ns k u
theorem Rs.keep {H H' : Hp} {bs : List Addr} (t : TX H H') (h : Rs H ns k bs) : Rs H' ns k bs := fun c hc => by
  obtain ⟨u, h1, h2⟩ := h c hc
  exact ⟨u, TN.keep t h1, h2⟩
theorem Rs.nil (H : Hp) : Rs H ns k [] := fun _ h => nomatch h
theorem Rs.snoc {H : Hp} {bs : List Addr} {c : Addr} {u : Rl} (h : Rs H ns k bs) (h1 : TN H c (rlL u)) (h2 : OkR ns k u) : Rs H ns k (bs ++ [c]) := fun d hd => by
  rcases List.mem_append.mp hd with q | q
  · exact h d q
  · rw [List.mem_singleton.mp q]
    exact ⟨u, h1, h2⟩
theorem paired_ex {α β : Type} {F : α → β → Prop} : ∀ {l : List α}, (∀ a ∈ l, ∃ b, F a b) → ∃ m, Paired F l m
  | [], _ => ⟨[], .nil⟩
  | a :: l, h => by
    obtain ⟨b, hb⟩ := h a (List.mem_cons_self ..)
    obtain ⟨m, hm⟩ := paired_ex (l := l) fun x hx => h x (List.mem_cons_of_mem _ hx)
    exact ⟨b :: m, .cons hb hm⟩
theorem paired_and {α β : Type} {F : α → β → Prop} {P : β → Prop} {l : List α} {m : List β} (h : Paired (fun a b => F a b ∧ P b) l m) : Paired F l m ∧ ∀ b ∈ m, P b := by
  induction h with
  | nil => exact ⟨.nil, fun _ h => nomatch h⟩
  | cons h1 h2 ih =>
    refine ⟨.cons h1.1 ih.1, fun b hb => ?_⟩
    rcases List.mem_cons.mp hb with e | e
    · rw [e]; exact h1.2
    · exact ih.2 b e
theorem paired_map {α β γ : Type} {F : α → γ → Prop} {g : β → γ} {l : List α} {m : List β} (h : Paired (fun a b => F a (g b)) l m) : Paired F l (m.map g) := by
  induction h with
  | nil => exact .nil
  | cons h1 h2 ih => exact .cons h1 ih
/-- a tuple of rules -/
def TRow (H : Hp) (ns k : Nat) (z : Addr) : Prop := ∃ bs : List Addr, H z = some (.tup (bs.map V.ref)) ∧ bs.length = k ∧ Rs H ns k bs
theorem TRow.keep {H H' : Hp} {z : Addr} (t : TX H H') (h : TRow H ns k z) : TRow H' ns k z := by
  obtain ⟨bs, h1, h2, h3⟩ := h
  exact ⟨bs, t _ _ h1, h2, h3.keep t⟩
/-- a tuple of rows of rules is a machine -/
theorem mch_of {H : Hp} {z : Addr} {as : List Addr} (hz : H z = some (.tup (as.map V.ref))) (hl : as.length = ns) (hr : ∀ b ∈ as, TRow H ns k b) (n0 : 0 < ns) (n4 : ns ≤ 4) (k2 : 2 ≤ k) (k4 : k ≤ 4) : ∃ m, TM H z m ∧ Mch m ns k := by
  have : ∀ b ∈ as, ∃ r : List Rl, T2 H b (r.map rlL) ∧ r.length = k ∧ ∀ u ∈ r, OkR ns k u := fun b hb => by
    obtain ⟨bs, h1, h2, h3⟩ := hr b hb
    obtain ⟨r, hp⟩ := paired_ex (F := fun c u => TN H c (rlL u) ∧ OkR ns k u) h3
    obtain ⟨h4, h5⟩ := paired_and hp
    exact ⟨r, ⟨bs, h1, paired_map h4⟩, by rw [← Paired.length h4, h2], h5⟩
  obtain ⟨m, hp⟩ := paired_ex this
  obtain ⟨h4, h5⟩ := paired_and hp
  exact ⟨m, ⟨as, hz, h4⟩, by rw [← Paired.length h4, hl], n0, n4, k2, k4, fun r hr => ⟨(h5 r hr).1, (h5 r hr).2⟩⟩
/-- rows that are lists -/
def GR (H0 H : Hp) (rw : Addr) (n ns k : Nat) : Prop := ∃ as : List Addr, H rw = some (.lst (as.map V.ref)) ∧ as.length = n ∧ ∀ b ∈ as, H0 b = none ∧ ∃ bs : List Addr, H b = some (.lst (bs.map V.ref)) ∧ bs.length = k ∧ Rs H ns k bs
theorem GR.keep {H0 H H' : Hp} {rw : Addr} {n : Nat} (d : Dr H H') (h : GR H0 H rw n ns k) : GR H0 H' rw n ns k := by
  obtain ⟨as, h1, h2, h3⟩ := h
  refine ⟨as, d.keep _ _ h1 (ns_refs _), h2, fun b hb => ?_⟩
  obtain ⟨g0, bs, g1, g2, g3⟩ := h3 b hb
  exact ⟨g0, bs, d.keep _ _ g1 (ns_refs _), g2, g3.keep d.tx⟩
theorem putK_le (c : List (Key × V)) (ky : Key) (x : V) : (putK c ky x).length ≤ c.length + 1 := by
  unfold putK
  split <;> simp
/-- a tape in the making -/
def Tp0 (H : Hp) (d : Addr) (k n : Nat) : Prop := ∃ kvs : List (Key × V), H d = some (.dK kvs) ∧ (∀ ky v, valV kvs ky = some v → ∃ x, v = .int x ∧ Lt k x) ∧ kvs.length ≤ n
theorem Tp0.get {H : Hp} {d : Addr} {n : Nat} (h : Tp0 H d k n) (k0 : 0 < k) (t : Int) : ∃ o x, DGet H d (.int t) o ∧ o.getD (.int 0) = .int x ∧ Lt k x := by
  obtain ⟨kvs, h1, h2, h3⟩ := h
  refine ⟨valV kvs (Sum.inl t : Key), ?_⟩
  cases e : valV kvs (Sum.inl t : Key) with
  | none => exact ⟨0, by rw [← e]; exact DGet.k (k := Sum.inl t) h1, rfl, Int.le_refl _, by omega⟩
  | some v =>
    obtain ⟨x, rfl, hx⟩ := h2 _ _ e
    exact ⟨x, by rw [← e]; exact DGet.k (k := Sum.inl t) h1, rfl, hx⟩
theorem isD_k {H : Hp} {d : Addr} {kvs : List (Key × V)} (h : H d = some (.dK kvs)) : IsD H d := .inl ⟨kvs, .inl h⟩
/-! ### _law_needed -/
def spNeed : Sp := fun vs H Q _ => ∃ (rw : Addr) (n : Int) (H0 : Hp) (ns k : Nat), vs = [.ref rw, .int n] ∧ GR H0 H rw ns ns k ∧ 0 < ns ∧ 0 < k ∧ 0 ≤ n ∧ n ≤ 1000 ∧ (∀ H', Same H H' → Q .non H') ∧ ∀ t s x H', Same H H' → H' t = some (.tup [.int s, .int x]) → Lt ns s → Lt k x → Q (.ref t) H'
abbrev nNeed : List Str := ["_law_rows", "_law_steps", "_law_cells", "_law_place", "_law_state", "_law_k", "_law_symbol", "_law_rule"]
theorem scNeed : FnScope nNeed ["_law_rows", "_law_steps"] (defScope (top 20)) := ⟨rfl, rfl, rfl, by decide +kernel, rfl, by decide +kernel, by decide +kernel⟩
theorem ok_need {f : Addr} {fd : FuncData} (F : FnP K "_law_needed" "_law_needed" (top 20) f fd) (G : Gx mg) : FnOk P w K mg base CX0 1 f fd ["_law_rows", "_law_steps"] spNeed := by
  refine F.ok scNeed (fun vs H Q E h => ?_) (fun cdv A' outer s H vs Q E' hr h => ?_)
  · obtain ⟨rw, n, H0, ns, k, rfl, _⟩ := h
    rfl
  · obtain ⟨rw, n, H0, ns, k, rfl, g, n0, k0, hn0, hn, q1, q2⟩ := h
    have hu := hu_of hr
    refine ⟨_, pss_cons (ps_set (i := 2) scNeed.nd rfl (Or.inl rfl) pe_dnewK)
      (pss_cons (ps_set (i := 3) scNeed.nd rfl (Or.inl rfl) pe_int)
      (pss_cons (ps_set (i := 4) scNeed.nd rfl (Or.inl rfl) pe_int)
      (pss_cons (ps_for PassesOwn.never rfl (pi_range1 (by rfl) G.range (pa_cons (pv 1) pa_nil)) (pg_name (i := 5) scNeed.nd rfl (Or.inl rfl))
        (pss_cons (ps_set (i := 6) scNeed.nd rfl (Or.inl rfl) (pe_dget2 hu (pv 2) (pv 3) pe_int ⟨rfl, rfl, rfl, rfl⟩))
        (pss_cons (ps_set (i := 7) scNeed.nd rfl (Or.inl rfl) (pe_ix (ixL_K (K := K) rfl) (pe_ix (ixL_K (K := K) rfl) (pv 0) (pv 4) (fun _ _ => rfl)) (pv 6) (fun _ _ => rfl)))
        (pss_cons (ps_if (pt_cmpR op_lt (pe_ix (ixT_K (K := K) rfl) (pv 7) pe_int (fun _ _ => rfl)) pe_int (nomark _)) (pss_one (ps_ret (pe_tup (pa_cons (pv 4) (pa_cons (pv 6) pa_nil))))) pss_nil)
        (pss_cons (ps_dput hu (pv 2) (pv 3) (pe_ix (ixT_K (K := K) rfl) (pv 7) pe_int (fun _ _ => rfl)) rfl)
        (pss_cons (ps_set (i := 3) scNeed.nd rfl (Or.inl rfl) (pe_op op_add (pv 3) (pe_ix (ixT_K (K := K) rfl) (pv 7) pe_int (fun _ _ => rfl))))
        (pss_one (ps_set (i := 4) scNeed.nd rfl (Or.inl rfl) (pe_ix (ixT_K (K := K) rfl) (pv 7) pe_int (fun _ _ => rfl))))))))))
      (pss_one (ps_ret pe_non))))), ?_⟩
    rw [show L2.start nNeed [V.ref rw, V.int n] = [some (V.ref rw), some (V.int n), none, none, none, none, none, none] from rfl]
    refine fun D hD => ?_
    simp only [List.set_cons_zero, List.set_cons_succ]
    refine ⟨_, rfl, n, rfl, by omega, by omega, for_range (fun i σ H' => Same H H' ∧ Tp0 H' D k i ∧ ∃ (p s : Int) (u v y : Option V), Lt ns s ∧ σ = [some (.ref rw), some (.int n), some (.ref D), some (.int p), some (.int s), u, v, y])
      ⟨Same.new hD, ⟨[], upd_same, (fun _ _ e => nomatch e), Nat.zero_le _⟩, 0, 0, none, none, none, ⟨Int.le_refl _, by omega⟩, rfl⟩ ?_ ?_⟩
    · rintro i σ H1 hi ⟨s1, tp, p, st, u, v, y, hs, rfl⟩
      obtain ⟨kvs, h1, h2, h3⟩ := id tp
      obtain ⟨o, x, g1, g2, g3⟩ := tp.get k0 p
      refine ⟨_, rfl, D, rfl, isD_k h1, _, rfl, o, g1, ?_⟩
      rw [g2]
      simp only [List.set_cons_zero, List.set_cons_succ]
      obtain ⟨as, a1, a2, a3⟩ := g.keep (Dr.same s1)
      have hsi : st.toNat < as.length := by rw [a2]; unfold Lt at hs; omega
      obtain ⟨_, bs, b1, b2, b3⟩ := a3 _ (List.getElem_mem hsi)
      have hxi : x.toNat < bs.length := by rw [b2]; unfold Lt at g3; omega
      obtain ⟨⟨w1, w2, w3⟩, t1, o1, o2, o3, o4⟩ := b3 _ (List.getElem_mem hxi)
      have t2 : H1 bs[x.toNat] = some (.tup [.int w1, .int w2, .int w3]) := t1
      refine ⟨_, rfl, _, rfl, rw, _, _, _, rfl, rfl, SqL.of a1, atI_lt hs.1 (by rw [List.getElem?_map, List.getElem?_eq_getElem hsi]; rfl), _, rfl, _, _, _, _, rfl, rfl, SqL.of b1, atI_lt g3.1 (by rw [List.getElem?_map, List.getElem?_eq_getElem hxi]; rfl), ?_⟩
      simp only [List.set_cons_zero, List.set_cons_succ]
      refine ⟨_, rfl, _, _, _, _, rfl, rfl, SqT.of t2, rfl, _, _, rfl, rfl, _, rfl, ?_⟩
      have o3 : -1 ≤ w3 := o3
      have o4 : w3 < (ns : Int) := o4
      have o1 : Lt k w1 := o1
      by_cases hneg : w3 < 0
      · refine iteD hneg ⟨_, rfl, _, rfl, sz1000 (by show 2 ≤ 100000; decide), fun t ht => ?_⟩
        exact q2 t st x _ (s1.trans (Same.new ht)) upd_same hs g3
      · refine iteDN hneg ?_
        refine ⟨_, rfl, _, _, _, _, rfl, rfl, SqT.of t2, rfl, _, rfl, _, rfl, D, _, rfl, DPut.k (k := Sum.inl p) h1 (szlt (by omega)), ?_⟩
        have nD : ∀ z xs, H1 z = some (.tup xs) → upd H1 D (.dK (putK kvs (Sum.inl p) (.int w1))) z = some (.tup xs) := fun z xs hz => by
          rw [upd_ne (ne_of hz h1 (by intro z; cases z))]
          exact hz
        have t3 := nD _ _ t2
        refine ⟨_, rfl, _, rfl, _, _, _, _, rfl, rfl, SqT.of t3, rfl, _, _, rfl, rfl, ?_⟩
        simp only [List.set_cons_zero, List.set_cons_succ]
        refine ⟨_, rfl, _, _, _, _, rfl, rfl, SqT.of t3, rfl, ?_⟩
        refine ⟨Same.mut s1 hD, ⟨_, upd_same, fun ky v hv => ?_, ?_⟩, _, _, _, _, _, ⟨by omega, o4⟩, rfl⟩
        · rw [valV_put] at hv
          split at hv
          · cases hv
            exact ⟨w1, rfl, o1⟩
          · exact h2 ky v hv
        · have := putK_le kvs (Sum.inl p) (.int w1)
          omega
    · rintro σ H1 ⟨s1, tp, p, st, u, v, y, hs, rfl⟩
      exact q1 H1 s1
end
end Tac
namespace Tac
open PySem PySem.Spec PyProof.Rows L2 TacR
section
variable {P : Program} {w : World} {K : PySem.W.Frag} {mg : Str → Option Value} {base : Heap}
variable {ns k : Nat}
def lcSc : Expr → Scope
  | .ListComp _ _ sc _ => sc
  | _ => defScope (top 7)
def asgE : Stmt → Expr
  | .Assign _ e _ => e
  | .Return (some e) _ => e
  | _ => .Constant .none 0 ⟨0, 0, 0, 0⟩
def arg0 : Expr → Expr
  | .Call _ (e :: _) _ _ => e
  | e => e
def bodyAt (i j : Nat) : Stmt := (defBody (top i)).getD j (.Pass ⟨0, 0, 0, 0⟩)
def env0 (o : Scope) : Env := { scope := o, locals := 0, globals := 0, cells := [], qual := "", func := none, frame := none, builtins := 0 }
def relS (sc o : Scope) : Scope := relabel sc (env0 o)
theorem blk_in {N : List Str} {sc o scope : Scope} {own : List (Str × Nat)} {env : Env} (h : env.scope = o) (hb : BlkOk N (relS sc o) scope own) : BlkOk N (relabel sc env) scope own := by
  have e : relabel sc env = relS sc o := by
    subst h
    rfl
  rw [e]
  exact hb
theorem GR.put {H0 H : Hp} {rw b t : Addr} {n ns k j : Nat} {bs : List Addr} {u : Rl} (h : GR H0 H rw n ns k) (hb : ∃ as : List Addr, H rw = some (.lst (as.map V.ref)) ∧ b ∈ as) (h1 : H b = some (.lst (bs.map V.ref))) (ht : TN H t (rlL u)) (hu : OkR ns k u) :
    GR H0 (upd H b (.lst ((bs.map V.ref).set j (.ref t)))) rw n ns k := by
  obtain ⟨as, a1, a2, a3⟩ := h
  obtain ⟨as', a1', hb⟩ := hb
  have hb : b ∈ as := by
    rw [a1] at a1'
    have : as.map V.ref = as'.map V.ref := HO.lst.inj (Option.some.inj a1')
    have hm : V.ref b ∈ as.map V.ref := by rw [this]; exact List.mem_map.mpr ⟨b, hb, rfl⟩
    obtain ⟨c, hc, e⟩ := List.mem_map.mp hm
    cases e
    exact hc
  have hbs : bs.length = k ∧ Rs H ns k bs := by
    obtain ⟨_, bs', g1, g2, g3⟩ := a3 b hb
    rw [h1] at g1
    have e : bs.map V.ref = bs'.map V.ref := HO.lst.inj (Option.some.inj g1)
    have e2 : bs = bs' := (List.map_inj_right (f := V.ref) (fun x y h => by cases h; rfl)).mp e
    rw [e2]
    exact ⟨g2, g3⟩
  have eset : (bs.map V.ref).set j (.ref t) = (bs.set j t).map V.ref := List.map_set.symm
  rw [eset]
  have tx : TX H (upd H b (.lst ((bs.set j t).map V.ref))) := TX.mut h1 (by intro xs z; cases z)
  have nrw : rw ≠ b := fun e => by
    rw [e, h1] at a1
    have e1 : bs.map V.ref = as.map V.ref := HO.lst.inj (Option.some.inj a1)
    have hm : V.ref b ∈ bs.map V.ref := by rw [e1]; exact List.mem_map.mpr ⟨b, hb, rfl⟩
    obtain ⟨c, hc, e2⟩ := List.mem_map.mp hm
    cases e2
    obtain ⟨u', t1, _⟩ := hbs.2 b hc
    have t2 : H b = some (.tup ((rlL u').map V.int)) := t1
    rw [t2] at h1
    cases h1
  refine ⟨as, by rw [upd_ne nrw]; exact a1, a2, fun c hc => ?_⟩
  obtain ⟨g0, bs', g1, g2, g3⟩ := a3 c hc
  refine ⟨g0, ?_⟩
  by_cases e : c = b
  · rw [e, upd_same]
    refine ⟨_, rfl, by rw [List.length_set]; exact hbs.1, fun d hd => ?_⟩
    rcases List.mem_or_eq_of_mem_set hd with q | q
    · obtain ⟨u', w1, w2⟩ := hbs.2 d q
      exact ⟨u', TN.keep tx w1, w2⟩
    · rw [q]
      exact ⟨u, TN.keep tx ht, hu⟩
  · exact ⟨bs', by rw [upd_ne e]; exact g1, g2, g3.keep tx⟩
theorem refs_ints {bs : List Addr} {us : List Int} (h : bs.length ≠ 0) : bs.map V.ref ≠ us.map V.int := fun e => by
  match bs, us, h, e with
  | [], _, h, _ => exact h rfl
  | _ :: _, [], _, e => cases e
  | _ :: _, _ :: _, _, e => cases e
theorem pick {l : List Int} {R : Int → Prop} (h : ∀ x ∈ l, R x) {v : Int} (h0 : 0 ≤ v) (h1 : v < (l.length : Int)) : ∃ y, atI (l.map V.int) v = some (.int y) ∧ R y := by
  have hi : v.toNat < l.length := by omega
  exact ⟨l[v.toNat], atI_lt h0 (by rw [List.getElem?_map, List.getElem?_eq_getElem hi]; rfl), h _ (List.getElem_mem hi)⟩
theorem nat_of {v : Int} (h : 0 ≤ v) : ∃ n : Nat, v = (n : Int) := ⟨v.toNat, by omega⟩
def spGrown : Sp := fun vs H Q _ => ∃ a sa : Addr, vs = [.ref a] ∧ St H a sa ∧ ∀ (z : Addr) (m : MchT) (ns k : Nat) H', Dr H H' → St H' a sa → TM H' z m → Mch m ns k → Q (.ref z) H'
abbrev nGrown : List Str := ["_law_stream_here", "_law_states", "_law_symbols", "_law_rows", "_law_k", "_law_found", "_law_row", "_law_s", "_law_x"]
theorem scGrown : FnScope nGrown ["_law_stream_here"] (defScope (top 21)) := ⟨rfl, rfl, rfl, by decide +kernel, rfl, by decide +kernel, by decide +kernel⟩
theorem ok_grown {f fD fN : Addr} {fd fdD fdN : FuncData} (F : FnP K "_law_grown_machine" "_law_grown_machine" (top 21) f fd) (G : Gx mg) (FD : FnP K "_law_draw" "_law_draw" (top 19) fD fdD) (gD : mg "_law_draw" = some (.ref fD))
    (FN : FnP K "_law_needed" "_law_needed" (top 20) fN fdN) (gN : mg "_law_needed" = some (.ref fN)) : FnOk P w K mg base CX0 2 f fd ["_law_stream_here"] spGrown := by
  have GD : FnOk P w K mg base CX0 1 fD fdD ["_law_stream_here", "_law_many"] spDraw := ok_draw FD G
  have GN : FnOk P w K mg base CX0 1 fN fdN ["_law_rows", "_law_steps"] spNeed := ok_need FN G
  have bD : Binds K fdD ["_law_stream_here", "_law_many"] [] := FD.bindsN fun _ _ _ _ _ _ us hl => match us, hl with | [_, _], _ => rfl
  have bN : Binds K fdN ["_law_rows", "_law_steps"] [] := FN.bindsN fun _ _ _ _ _ _ us hl => match us, hl with | [_, _], _ => rfl
  refine F.ok scGrown (fun vs H Q E h => ?_) (fun cdv A' outer s H vs Q E' hr h => ?_)
  · obtain ⟨a, sa, rfl, _⟩ := h
    rfl
  · obtain ⟨a, sa, rfl, hst, q⟩ := h
    refine ⟨_, pss_cons (ps_set (i := 1) scGrown.nd rfl (Or.inl rfl) (pe_op op_add pe_int (pe_call GD hr (by rfl) gD FD.kp bD .nil pass0 (pa_cons (pv 0) (pa_cons pe_int pa_nil)))))
      (pss_cons (ps_set (i := 2) scGrown.nd rfl (Or.inr rfl) (pe_ix (ixL_K (K := K) rfl) (pe_lst (pa_cons pe_int (pa_cons pe_int (pa_cons pe_int (pa_cons pe_int (pa_cons pe_int pa_nil)))))) (pe_call GD hr (by rfl) gD FD.kp bD .nil pass0 (pa_cons (pv 0) (pa_cons pe_int pa_nil))) (fun _ _ => rfl)))
      (pss_cons (ps_setLc (i := 3) (own := [("_law_s", 7)]) (g := gName 7) (tt := tYes) rfl scGrown.nd rfl rfl (sw_true rfl rfl rfl (by decide +kernel)) (pi_range1 (by rfl) G.range (pa_cons (pv 1) pa_nil)) (blkOk_by (N := nGrown) (sc := defScope (top 21)) (by decide +kernel))
        (fun _ _ _ _ _ => pg_name (i := 7) scGrown.nd rfl (Or.inl rfl)) (fun _ _ _ _ _ => pts_nil)
        (fun _ _ _ _ _ => pe_lc (own := [("_law_x", 8)]) (g := gName 8) (tt := tYes) rfl scGrown.nd (pi_range1 (by rfl) G.range (pa_cons (pv 2) pa_nil)) (blk_in (sc := lcSc (asgE (bodyAt 21 2))) (o := defScope (top 21)) rfl (blkOk_by (N := nGrown) (by decide +kernel)))
          (fun _ _ _ _ _ => pg_name (i := 8) scGrown.nd rfl (Or.inl rfl)) (fun _ _ _ _ _ => pts_nil)
          (fun _ _ _ _ _ => pe_tup (pa_cons pe_int (pa_cons pe_int (pa_cons (pe_un un_neg pe_int) pa_nil))))))
      (Evl.pss_cut (ps_for PassesOwn.never rfl (pi_range1 (by rfl) G.range (pa_cons (pe_op op_sub (pe_op op_mul (pv 1) (pv 2)) (pe_call GD hr (by rfl) gD FD.kp bD .nil pass0 (pa_cons (pv 0) (pa_cons pe_int pa_nil)))) pa_nil)) (pg_name (i := 4) scGrown.nd rfl (Or.inl rfl))
        (pss_cons (ps_set (i := 5) scGrown.nd rfl (Or.inl rfl) (pe_call GN hr (by rfl) gN FN.kp bN .nil pass0 (pa_cons (pv 3) (pa_cons pe_int pa_nil))))
        (pss_cons (ps_if (pt_cmp (pc_isN (pv 5))) (pss_one ps_break) pss_nil)
        (pss_cons (ps_set (i := 6) scGrown.nd rfl (Or.inl rfl) (pe_ix (ixL_K (K := K) rfl) (pv 3) (pe_ix (ixT_K (K := K) rfl) (pv 5) pe_int (fun _ _ => rfl)) (fun _ _ => rfl)))
        (pss_one (ps_asg (pe_tup (pa_cons (pe_call GD hr (by rfl) gD FD.kp bD .nil pass0 (pa_cons (pv 0) (pa_cons (pv 2) pa_nil))) (pa_cons (pe_op op_sub (pe_op op_mul pe_int (pe_call GD hr (by rfl) gD FD.kp bD .nil pass0 (pa_cons (pv 0) (pa_cons pe_int pa_nil)))) pe_int)
          (pa_cons (pe_call GD hr (by rfl) gD FD.kp bD .nil pass0 (pa_cons (pv 0) (pa_cons (pv 1) pa_nil))) pa_nil)))) (pg_sub (pv 6) (pe_ix (ixT_K (K := K) rfl) (pv 5) pe_int (fun _ _ => rfl)) set_list)))))))
      (pss_one (ps_ret (pe_callTy (tuple_K (K := K) rfl) (by rfl) G.tuple (by decide +kernel) (pa_cons (pe_lc (own := [("_law_row", 6)]) (g := gName 6) (tt := tYes) rfl scGrown.nd (pi_list (pv 3)) (blkOk_by (N := nGrown) (sc := defScope (top 21)) (by decide +kernel))
        (fun _ _ _ _ _ => pg_name (i := 6) scGrown.nd rfl (Or.inl rfl)) (fun _ _ _ _ _ => pts_nil) (fun _ _ _ _ _ => pe_callTy (tuple_K (K := K) rfl) (by rfl) G.tuple (by decide +kernel) (pa_cons (pv 6) pa_nil))) pa_nil))))))), ?_⟩
    rw [show L2.start nGrown [V.ref a] = [some (V.ref a), none, none, none, none, none, none, none, none] from rfl]
    -- states
    refine ⟨_, rfl, a, sa, 4, rfl, hst, by decide, by decide, fun v1 H1 v10 v11 d1 st1 => ⟨_, _, rfl, rfl, ?_⟩⟩
    obtain ⟨ns, hns⟩ := nat_of (show 0 ≤ 1 + v1 by omega)
    show gName 1 (V.int (1 + v1)) _ _ _
    rw [hns]
    have n0 : 0 < ns := by omega
    have n4 : ns ≤ 4 := by omega
    simp only [List.set_cons_zero, List.set_cons_succ]
    -- symbols
    refine ⟨sz1000 (by show 5 ≤ 100000; decide), fun l2 hl2 => ?_⟩
    have s2 : Same H1 (upd H1 l2 (.lst [.int 2, .int 2, .int 2, .int 3, .int 4])) := Same.new hl2
    refine ⟨_, rfl, a, sa, 5, rfl, st1.same s2, by decide, by decide, fun v2 H2 v20 v21 d2 st2 => ?_⟩
    obtain ⟨y, hy1, hy2⟩ := pick (l := [2, 2, 2, 3, 4]) (R := fun y => 2 ≤ y ∧ y ≤ 4) (by decide) v20 v21
    refine ⟨l2, _, _, _, rfl, rfl, SqL.of (d2.keep _ _ upd_same (ns_ints [2, 2, 2, 3, 4])), hy1, ?_⟩
    obtain ⟨k, hk⟩ := nat_of (show 0 ≤ y by omega)
    subst hk
    have k2 : 2 ≤ k := by omega
    have k4 : k ≤ 4 := by omega
    simp only [List.set_cons_zero, List.set_cons_succ]
    have dA : Dr H H2 := d1.trans ((Dr.same s2).trans d2)
    clear hy1 s2 hl2 d1 st1
    -- rows
    refine ⟨_, rfl, (ns : Int), rfl, by omega, by omega, fun D hD => lc_range (lo := 0) (n := ((ns : Int)).toNat) (fun i H' => Same H2 H' ∧ GR H2 H' D i ns k) ⟨Same.new hD, [], upd_same, rfl, (fun _ h => nomatch h)⟩ ?_ ?_⟩
    · rintro i H3 hi ⟨s3, g3⟩
      have hi : i < ns := by omega
      refine ⟨rfl, yesT ?_⟩
      refine ⟨_, rfl, (k : Int), rfl, by omega, by omega, fun D2 hD2 => lc_range (lo := 0) (n := ((k : Int)).toNat) (fun j H' => Same H3 H' ∧ ∃ bs : List Addr, H' D2 = some (.lst (bs.map V.ref)) ∧ bs.length = j ∧ Rs H' ns k bs) ⟨Same.new hD2, [], upd_same, rfl, Rs.nil _⟩ ?_ ?_⟩
      · rintro j H4 hj ⟨s4, bs, b1, b2, b3⟩
        have hj : j < k := by omega
        refine ⟨rfl, yesT ?_⟩
        refine ⟨_, rfl, sz1000 (by show 3 ≤ 100000; decide), fun t ht => ?_⟩
        have s5 : Same H4 (upd H4 t (.tup [.int 1, .int 1, .int (-1)])) := Same.new ht
        have b1' := s5 _ _ b1
        refine ⟨_, b1', szlt (by rw [List.length_map]; omega), ?_⟩
        rw [refs_snoc]
        have tx : TX H4 (upd (upd H4 t (.tup [.int 1, .int 1, .int (-1)])) D2 (.lst ((bs ++ [t]).map V.ref))) := (TX.same s5).trans (TX.mut b1' (by intro xs z; cases z))
        refine ⟨Same.mut (s4.trans s5) hD2, bs ++ [t], upd_same, by rw [List.length_append, b2]; rfl, ?_⟩
        refine (b3.keep tx).snoc (u := (1, 1, -1)) (TX.mut b1' (by intro xs z; cases z) _ _ upd_same) ⟨⟨by decide, by show (1 : Int) < k; omega⟩, .inl rfl, Int.le_refl _, by show (-1 : Int) < ns; omega⟩
      · rintro H4 ⟨s4, bs, b1, b2, b3⟩
        have b2 : bs.length = k := by omega
        obtain ⟨as, a1, a2, a3⟩ := g3
        have a1' := s4 _ _ a1
        refine ⟨_, a1', szlt (by rw [List.length_map]; omega), ?_⟩
        rw [refs_snoc]
        have nD : D2 ≠ D := fun e => by rw [e] at hD2; rw [hD2] at a1; cases a1
        have tx : TX H4 (upd H4 D (.lst ((as ++ [D2]).map V.ref))) := TX.mut a1' (by intro xs z; cases z)
        refine ⟨Same.mut (s3.trans s4) hD, as ++ [D2], upd_same, by rw [List.length_append, a2]; rfl, fun b hb => ?_⟩
        rcases List.mem_append.mp hb with hb | hb
        · obtain ⟨g0, bs', g1, g2, g3⟩ := a3 b hb
          have nb : b ≠ D := fun e => by
            rw [e, a1] at g1
            have e1 : as.map V.ref = bs'.map V.ref := HO.lst.inj (Option.some.inj g1)
            have hm : V.ref b ∈ bs'.map V.ref := by rw [← e1]; exact List.mem_map.mpr ⟨b, hb, rfl⟩
            obtain ⟨c, hc, e2⟩ := List.mem_map.mp hm
            cases e2
            obtain ⟨u', t1, _⟩ := g3 b hc
            rw [e] at t1
            have t2 : H3 D = some (.tup ((rlL u').map V.int)) := t1
            rw [a1] at t2
            cases t2
          exact ⟨g0, bs', by rw [upd_ne nb]; exact s4 _ _ g1, g2, (g3.keep (TX.same s4)).keep tx⟩
        · rw [List.mem_singleton.mp hb]
          exact ⟨s3.free hD2, bs, by rw [upd_ne nD]; exact b1, b2, b3.keep tx⟩
    · rintro H3 ⟨s3, g3⟩
      have g3 : GR H2 H3 D ns ns k := by rw [show ((ns : Int)).toNat = ns by omega] at g3; exact g3
      have dB := dA.trans (Dr.same s3)
      have st3 := st2.same s3
      have g3 : GR H H3 D ns ns k := by
        obtain ⟨as, a1, a2, a3⟩ := g3
        refine ⟨as, a1, a2, fun b hb => ?_⟩
        obtain ⟨g0, r⟩ := a3 b hb
        exact ⟨dA.dom b g0, r⟩
      clear s3 st2 dA
      simp only [List.set_cons_zero, List.set_cons_succ]
      -- for
      refine ⟨fun σ H4 => Dr H H4 ∧ St H4 a sa ∧ GR H H4 D ns ns k ∧ ∃ u v y, σ = [some (.ref a), some (.int ns), some (.int k), some (.ref D), u, v, y, none, none], ?_, ?_⟩
      · have hm : -(2 ^ 64 : Int) < (ns : Int) ∧ (ns : Int) < 2 ^ 64 := ⟨by omega, by omega⟩
        refine ⟨_, rfl, _, rfl, _, _, rfl, rfl, .inl hm, _, rfl, a, sa, 2, rfl, st3, by decide, by decide, fun v3 H4 v30 v31 d4 st4 => ⟨_, _, rfl, rfl, ?_⟩⟩
        have hmul : (ns : Int) * (k : Int) ≤ 16 := by
          have := mul_le_of n4 k4
          rw [← Int.natCast_mul]
          omega
        have hmul0 : 0 ≤ (ns : Int) * (k : Int) := Int.mul_nonneg (by omega) (by omega)
        refine ⟨_, rfl, by omega, by omega, for_range (fun i σ H5 => Dr H H5 ∧ St H5 a sa ∧ GR H H5 D ns ns k ∧ ∃ u v y, σ = [some (.ref a), some (.int ns), some (.int k), some (.ref D), u, v, y, none, none])
          ⟨dB.trans d4, st4, g3.keep d4, none, none, none, rfl⟩ ?_ (fun σ H5 h => h)⟩
        rintro i σ H5 hi ⟨d5, st5, g5, u, v, y, rfl⟩
        have stop : ∀ H6, Same H5 H6 → ∀ u v y, Dr H H6 ∧ St H6 a sa ∧ GR H H6 D ns ns k ∧ ∃ u' v' y', [some (V.ref a), some (V.int ns), some (V.int k), some (V.ref D), u, v, y, none, none] = [some (V.ref a), some (V.int ns), some (V.int k), some (V.ref D), u', v', y', none, none] :=
          fun H6 s6 u v y => ⟨d5.trans (Dr.same s6), st5.same s6, g5.keep (Dr.same s6), u, v, y, rfl⟩
        simp only [List.set_cons_zero, List.set_cons_succ]
        refine ⟨_, rfl, D, 80, H, ns, k, rfl, g5, n0, by omega, by decide, by decide, fun H6 s6 => ?_, fun t sx xx H6 s6 ht hsx hxx => ?_⟩
        · refine ⟨_, rfl, _, rfl, iteD rfl ?_⟩
          exact stop H6 s6 _ _ _
        · refine ⟨_, rfl, _, rfl, iteDN (by intro z; cases z) ?_⟩
          have d6 := d5.trans (Dr.same s6)
          have st6 := st5.same s6
          have g6 := g5.keep (Dr.same s6)
          simp only [List.set_cons_zero, List.set_cons_succ]
          obtain ⟨as, a1, a2, a3⟩ := id g6
          have hsi : sx.toNat < as.length := by rw [a2]; unfold Lt at hsx; omega
          refine ⟨_, rfl, _, rfl, t, _, _, _, rfl, rfl, SqT.of ht, rfl, D, _, _, _, rfl, rfl, SqL.of a1, atI_lt hsx.1 (by rw [List.getElem?_map, List.getElem?_eq_getElem hsi]; rfl), ?_⟩
          have hb := List.getElem_mem hsi
          generalize as[sx.toNat] = b at hb
          simp only [List.set_cons_zero, List.set_cons_succ]
          -- the rule
          refine ⟨_, rfl, _, rfl, a, sa, _, rfl, st6, by omega, by omega, fun w1 H7 w10 w11 d7 st7 => ?_⟩
          refine ⟨_, rfl, a, sa, 2, rfl, st7, by decide, by decide, fun w2 H8 w20 w21 d8 st8 => ?_⟩
          refine ⟨_, _, rfl, rfl, .inl (by decide), _, _, rfl, rfl, ?_⟩
          refine ⟨_, rfl, _, rfl, a, sa, _, rfl, st8, by omega, by omega, fun w3 H9 w30 w31 d9 st9 => ?_⟩
          refine ⟨sz1000 (by show 3 ≤ 100000; decide), fun r hr0 => ?_⟩
          have d69 : Dr H6 H9 := d7.trans (d8.trans d9)
          have s10 : Same H9 (upd H9 r (.tup [.int w1, .int (2 * w2 - 1), .int w3])) := Same.new hr0
          have d10 := d69.trans (Dr.same s10)
          have g10 := g6.keep d10
          have st10 := st9.same s10
          obtain ⟨h0, bs, b1, b2, b3⟩ := a3 b hb
          have b1' := d10.keep _ _ b1 (ns_refs _)
          have a1' := d10.keep _ _ a1 (ns_refs _)
          have hxi : xx.toNat < bs.length := by rw [b2]; unfold Lt at hxx; omega
          refine ⟨_, rfl, _, rfl, t, _, _, _, rfl, rfl, SqT.of (d10.tx _ _ ht), rfl, b, _, xx, xx.toNat, rfl, rfl, b1', ?_, ?_⟩
          · unfold ixN
            rw [if_pos hxx.1, if_pos (by rw [List.length_map]; omega)]
          · have okr : OkR ns k (w1, 2 * w2 - 1, w3) := by
              refine ⟨⟨w10, w11⟩, ?_, by show -1 ≤ w3; omega, w31⟩
              show 2 * w2 - 1 = 1 ∨ 2 * w2 - 1 = -1
              omega
            have g11 := g10.put (j := xx.toNat) (t := r) ⟨as, a1', hb⟩ b1' (show TN (upd H9 r _) r (rlL (w1, 2 * w2 - 1, w3)) from upd_same) okr
            exact ⟨(d6.trans d10).mut h0, st10.upd (hst.new h0), g11, _, _, _, rfl⟩
      · rintro σ H4 ⟨d4, st4, g4, u, v, y, rfl⟩
        obtain ⟨as, a1, a2, a3⟩ := id g4
        refine ⟨_, rfl, D, rfl, ⟨_, SqL.of a1⟩, fun D3 hD3 => lc_list (K := K) (a := D) (xs := as.map V.ref) (fun i H' => Same H4 H' ∧ ∃ cs : List Addr, H' D3 = some (.lst (cs.map V.ref)) ∧ cs.length = i ∧ ∀ c ∈ cs, TRow H' ns k c)
          ⟨Same.new hD3, [], upd_same, rfl, (fun _ h => nomatch h)⟩ (fun i H' _ p => SqL.of (p.1 _ _ a1)) ?_ ?_⟩
        · rintro i x H5 hx ⟨s5, cs, c1, c2, c3⟩
          obtain ⟨hi, _⟩ := List.getElem?_eq_some_iff.mp hx
          rw [List.length_map] at hi
          rw [List.getElem?_map, List.getElem?_eq_getElem hi] at hx
          obtain rfl : V.ref as[i] = x := Option.some.inj hx
          obtain ⟨_, bs, b1, b2, b3⟩ := a3 _ (List.getElem_mem hi)
          refine ⟨rfl, yesT ⟨_, rfl, as[i], _, rfl, .inl ⟨SqL.of (s5 _ _ b1), fun z hz => ?_⟩⟩⟩
          have s6 : Same H5 (upd H5 z (.tup (bs.map V.ref))) := Same.new hz
          have c1' := s6 _ _ c1
          refine ⟨_, c1', szlt (by rw [List.length_map]; omega), ?_⟩
          rw [refs_snoc]
          have t7 : TX (upd H5 z (.tup (bs.map V.ref))) (upd (upd H5 z (.tup (bs.map V.ref))) D3 (.lst ((cs ++ [z]).map V.ref))) := TX.mut c1' (by intro xs z; cases z)
          refine ⟨Same.mut (s5.trans s6) hD3, cs ++ [z], upd_same, by rw [List.length_append, c2]; rfl, fun c hc => ?_⟩
          rcases List.mem_append.mp hc with hc | hc
          · exact (c3 c hc).keep ((TX.same s6).trans t7)
          · rw [List.mem_singleton.mp hc]
            exact ⟨bs, t7 _ _ upd_same, b2, b3.keep ((TX.same (s5.trans s6)).trans t7)⟩
        · rintro H5 ⟨s5, cs, c1, c2, c3⟩
          refine ⟨D3, _, rfl, .inl ⟨SqL.of c1, fun z hz => ?_⟩⟩
          have s6 : Same H5 (upd H5 z (.tup (cs.map V.ref))) := Same.new hz
          obtain ⟨m, hm1, hm2⟩ := mch_of (ns := ns) (k := k) (show upd H5 z (.tup (cs.map V.ref)) z = _ from upd_same) (by rw [c2, List.length_map, a2]) (fun b hb => (c3 b hb).keep (TX.same s6)) n0 n4 k2 k4
          exact q z m ns k _ (d4.trans (Dr.same (s5.trans s6))) (st4.same (s5.trans s6)) hm1 hm2
end
end Tac
namespace Tac
open PySem PySem.Spec PyProof.Rows L2 TacR
section
variable {P : Program} {w : World} {K : PySem.W.Frag} {mg : Str → Option Value} {base : Heap}
variable {ns k : Nat}
abbrev nMach : List Str := ["_law_stream_here", "_law_states", "_law_symbols", "_law_stops", "_law_rows", "_law_s", "_law_rules", "_law_x", "_law_state"]
theorem scMach : FnScope nMach ["_law_stream_here"] (defScope (top 22)) := ⟨rfl, rfl, rfl, by decide +kernel, rfl, by decide +kernel, by decide +kernel⟩
/-- a list of rows (tuples) in the making -/
def Rows (H : Hp) (D : Addr) (n ns k : Nat) : Prop := ∃ cs : List Addr, H D = some (.lst (cs.map V.ref)) ∧ cs.length = n ∧ ∀ c ∈ cs, TRow H ns k c
theorem Rows.keep {H H' : Hp} {D : Addr} {n : Nat} (d : Dr H H') (h : Rows H D n ns k) : Rows H' D n ns k := by
  obtain ⟨cs, h1, h2, h3⟩ := h
  exact ⟨cs, d.keep _ _ h1 (ns_refs _), h2, fun c hc => (h3 c hc).keep d.tx⟩
/-- a list of rules in the making -/
def Rules (H : Hp) (D : Addr) (n ns k : Nat) : Prop := ∃ bs : List Addr, H D = some (.lst (bs.map V.ref)) ∧ bs.length = n ∧ Rs H ns k bs
theorem Rules.keep {H H' : Hp} {D : Addr} {n : Nat} (d : Dr H H') (h : Rules H D n ns k) : Rules H' D n ns k := by
  obtain ⟨bs, h1, h2, h3⟩ := h
  exact ⟨bs, d.keep _ _ h1 (ns_refs _), h2, h3.keep d.tx⟩
theorem ok_mach {f fD fW : Addr} {fd fdD fdW : FuncData} (F : FnP K "_law_machine" "_law_machine" (top 22) f fd) (G : Gx mg) (FD : FnP K "_law_draw" "_law_draw" (top 19) fD fdD) (gD : mg "_law_draw" = some (.ref fD))
    (FW : FnP K "_law_grown_machine" "_law_grown_machine" (top 21) fW fdW) (gW : mg "_law_grown_machine" = some (.ref fW)) (GW : FnOk P w K mg base CX0 2 fW fdW ["_law_stream_here"] spGrown) : FnOk P w K mg base CX0 3 f fd ["_law_stream_here"] spGrown := by
  have GD : FnOk P w K mg base CX0 1 fD fdD ["_law_stream_here", "_law_many"] spDraw := ok_draw FD G
  have bD : Binds K fdD ["_law_stream_here", "_law_many"] [] := FD.bindsN fun _ _ _ _ _ _ us hl => match us, hl with | [_, _], _ => rfl
  have bW : Binds K fdW ["_law_stream_here"] [] := FW.bindsN fun _ _ _ _ _ _ us hl => match us, hl with | [_], _ => rfl
  refine F.ok scMach (fun vs H Q E h => ?_) (fun cdv A' outer s H vs Q E' hr h => ?_)
  · obtain ⟨a, sa, rfl, _⟩ := h
    rfl
  · obtain ⟨a, sa, rfl, hst, q⟩ := h
    have hr1 : Room 1 _ := hr.mono (by decide)
    refine ⟨_, pss_cons (ps_if (pt_cmpR op_eq (pe_call GD hr1 (by rfl) gD FD.kp bD .nil pass0 (pa_cons (pv 0) (pa_cons pe_int pa_nil))) pe_int (nomark _)) (pss_one (ps_ret (pe_call GW hr (by rfl) gW FW.kp bW .nil pass0 (pa_cons (pv 0) pa_nil)))) pss_nil)
      (pss_cons (ps_set (i := 1) scMach.nd rfl (Or.inl rfl) (pe_ix (ixL_K (K := K) rfl) (pe_lst (pa_cons pe_int (pa_cons pe_int (pa_cons pe_int (pa_cons pe_int (pa_cons pe_int (pa_cons pe_int pa_nil))))))) (pe_call GD hr1 (by rfl) gD FD.kp bD .nil pass0 (pa_cons (pv 0) (pa_cons pe_int pa_nil))) (fun _ _ => rfl)))
      (pss_cons (ps_set (i := 2) scMach.nd rfl (Or.inl rfl) (pe_ix (ixL_K (K := K) rfl) (pe_lst (pa_cons pe_int (pa_cons pe_int (pa_cons pe_int (pa_cons pe_int (pa_cons pe_int pa_nil)))))) (pe_call GD hr1 (by rfl) gD FD.kp bD .nil pass0 (pa_cons (pv 0) (pa_cons pe_int pa_nil))) (fun _ _ => rfl)))
      (pss_cons (ps_set (i := 3) scMach.nd rfl (Or.inl rfl) (pe_ix (ixL_K (K := K) rfl) (pe_lst (pa_cons pe_int (pa_cons pe_int (pa_cons pe_int pa_nil)))) (pe_call GD hr1 (by rfl) gD FD.kp bD .nil pass0 (pa_cons (pv 0) (pa_cons pe_int pa_nil))) (fun _ _ => rfl)))
      (pss_cons (ps_set (i := 4) scMach.nd rfl (Or.inl rfl) (pe_lst pa_nil))
      (pss_cons (ps_for PassesOwn.never rfl (pi_range1 (by rfl) G.range (pa_cons (pv 1) pa_nil)) (pg_name (i := 5) scMach.nd rfl (Or.inl rfl))
        (pss_cons (ps_set (i := 6) scMach.nd rfl (Or.inl rfl) (pe_lst pa_nil))
        (pss_cons (ps_for PassesOwn.never rfl (pi_range1 (by rfl) G.range (pa_cons (pv 2) pa_nil)) (pg_name (i := 7) scMach.nd rfl (Or.inl rfl))
          (pss_cons (ps_set (i := 8) scMach.nd rfl (Or.inl rfl) (pe_call GD hr1 (by rfl) gD FD.kp bD .nil pass0 (pa_cons (pv 0) (pa_cons (pv 1) pa_nil))))
          (Evl.pss_cut (ps_if (pt_cmpR op_eq (pe_call GD hr1 (by rfl) gD FD.kp bD .nil pass0 (pa_cons (pv 0) (pa_cons (pv 3) pa_nil))) pe_int (nomark _)) (pss_one (ps_set (i := 8) scMach.nd rfl (Or.inl rfl) (pe_un un_neg pe_int))) pss_nil)
          (pss_one (ps_expr (pe_bm PySem.F.plainAttrs_list PySem.F.slot_list_append PySem.F.type_list_append mt_append (pv 6) (pa_cons
            (pe_tup (pa_cons (pe_call GD hr1 (by rfl) gD FD.kp bD .nil pass0 (pa_cons (pv 0) (pa_cons (pv 2) pa_nil))) (pa_cons (pe_op op_sub (pe_op op_mul pe_int (pe_call GD hr1 (by rfl) gD FD.kp bD .nil pass0 (pa_cons (pv 0) (pa_cons pe_int pa_nil)))) pe_int) (pa_cons (pv 8) pa_nil)))) pa_nil)))))))
        (pss_one (ps_expr (pe_bm PySem.F.plainAttrs_list PySem.F.slot_list_append PySem.F.type_list_append mt_append (pv 4) (pa_cons (pe_callTy (tuple_K (K := K) rfl) (by rfl) G.tuple (by decide +kernel) (pa_cons (pv 6) pa_nil)) pa_nil)))))))
      (pss_one (ps_ret (pe_callTy (tuple_K (K := K) rfl) (by rfl) G.tuple (by decide +kernel) (pa_cons (pv 4) pa_nil))))))))), ?_⟩
    rw [show L2.start nMach [V.ref a] = [some (V.ref a), none, none, none, none, none, none, none, none] from rfl]
    refine ⟨_, rfl, a, sa, 2, rfl, hst, by decide, by decide, fun v0 H1 v00 v01 d1 st1 => ⟨rfl, _, rfl, ?_⟩⟩
    by_cases h0 : v0 = 0
    · refine iteD (by rw [h0]) ?_
      exact ⟨_, rfl, a, sa, rfl, st1, fun z m ns k H2 d2 st2 hm hM => q z m ns k H2 (d1.trans d2) st2 hm hM⟩
    · refine iteDN (by intro z; exact h0 (V.int.inj z)) ?_
      -- states
      refine ⟨sz1000 (by show 6 ≤ 100000; decide), fun l2 hl2 => ?_⟩
      have s2 : Same H1 (upd H1 l2 (.lst [.int 2, .int 3, .int 2, .int 3, .int 1, .int 4])) := Same.new hl2
      refine ⟨_, rfl, a, sa, 6, rfl, st1.same s2, by decide, by decide, fun v2 H2 v20 v21 d2 st2 => ?_⟩
      obtain ⟨y, hy1, hy2⟩ := pick (l := [2, 3, 2, 3, 1, 4]) (R := fun y => 1 ≤ y ∧ y ≤ 4) (by decide) v20 v21
      refine ⟨l2, _, _, _, rfl, rfl, SqL.of (d2.keep _ _ upd_same (ns_ints [2, 3, 2, 3, 1, 4])), hy1, ?_⟩
      obtain ⟨ns, hns⟩ := nat_of (show 0 ≤ y by omega)
      subst hns
      have n0 : 0 < ns := by omega
      have n4 : ns ≤ 4 := by omega
      have dA : Dr H H2 := d1.trans ((Dr.same s2).trans d2)
      simp only [List.set_cons_zero, List.set_cons_succ]
      clear hy1 s2 hl2 d2 d1 st1
      -- symbols
      refine ⟨sz1000 (by show 5 ≤ 100000; decide), fun l3 hl3 => ?_⟩
      have s3 : Same H2 (upd H2 l3 (.lst [.int 2, .int 2, .int 2, .int 3, .int 4])) := Same.new hl3
      refine ⟨_, rfl, a, sa, 5, rfl, st2.same s3, by decide, by decide, fun v3 H3 v30 v31 d3 st3 => ?_⟩
      obtain ⟨y, hy1, hy3⟩ := pick (l := [2, 2, 2, 3, 4]) (R := fun y => 2 ≤ y ∧ y ≤ 4) (by decide) v30 v31
      refine ⟨l3, _, _, _, rfl, rfl, SqL.of (d3.keep _ _ upd_same (ns_ints [2, 2, 2, 3, 4])), hy1, ?_⟩
      obtain ⟨k, hk⟩ := nat_of (show 0 ≤ y by omega)
      subst hk
      have k2 : 2 ≤ k := by omega
      have k4 : k ≤ 4 := by omega
      have dB : Dr H H3 := dA.trans ((Dr.same s3).trans d3)
      simp only [List.set_cons_zero, List.set_cons_succ]
      clear hy1 s3 hl3 d3 dA st2
      -- stops
      refine ⟨sz1000 (by show 3 ≤ 100000; decide), fun l4 hl4 => ?_⟩
      have s4 : Same H3 (upd H3 l4 (.lst [.int 20, .int 6, .int 9])) := Same.new hl4
      refine ⟨_, rfl, a, sa, 3, rfl, st3.same s4, by decide, by decide, fun v4 H4 v40 v41 d4 st4 => ?_⟩
      obtain ⟨so, hy1, hso⟩ := pick (l := [20, 6, 9]) (R := fun y => 0 < y ∧ y < 1000) (by decide) v40 v41
      refine ⟨l4, _, _, _, rfl, rfl, SqL.of (d4.keep _ _ upd_same (ns_ints [20, 6, 9])), hy1, ?_⟩
      have dC : Dr H H4 := dB.trans ((Dr.same s4).trans d4)
      simp only [List.set_cons_zero, List.set_cons_succ]
      clear hy1 s4 hl4 d4 dB st3
      -- rows
      refine ⟨Nat.zero_le _, fun D hD => ?_⟩
      have hD0 : H D = none := dC.dom _ hD
      have s5 : Same H4 (upd H4 D (.lst [])) := Same.new hD
      simp only [List.set_cons_zero, List.set_cons_succ]
      refine ⟨_, rfl, (ns : Int), rfl, by omega, by omega, for_range (fun i σ H' => Dr H H' ∧ St H' a sa ∧ Rows H' D i ns k ∧ ∃ u v y w, σ = [some (.ref a), some (.int ns), some (.int k), some (.int so), some (.ref D), u, v, y, w])
        ⟨dC.trans (Dr.same s5), st4.same s5, ⟨[], upd_same, rfl, (fun _ h => nomatch h)⟩, none, none, none, none, rfl⟩ ?_ ?_⟩
      · rintro i σ H5 hi ⟨d5, st5, r5, u, v, y, w', rfl⟩
        have hi : i < ns := by omega
        simp only [List.set_cons_zero, List.set_cons_succ]
        refine ⟨Nat.zero_le _, fun D2 hD2 => ?_⟩
        have hD20 : H D2 = none := d5.dom _ hD2
        have s6 : Same H5 (upd H5 D2 (.lst [])) := Same.new hD2
        have nD : D ≠ D2 := by
          obtain ⟨cs, c1, _⟩ := r5
          exact ne_of_none c1 hD2
        simp only [List.set_cons_zero, List.set_cons_succ]
        refine ⟨_, rfl, (k : Int), rfl, by omega, by omega, for_range (fun j σ H' => Dr H H' ∧ St H' a sa ∧ Rows H' D i ns k ∧ Rules H' D2 j ns k ∧ ∃ u y w, σ = [some (.ref a), some (.int ns), some (.int k), some (.int so), some (.ref D), u, some (.ref D2), y, w])
          ⟨d5.trans (Dr.same s6), st5.same s6, r5.keep (Dr.same s6), ⟨[], upd_same, rfl, Rs.nil _⟩, _, _, _, rfl⟩ ?_ ?_⟩
        · rintro j σ H6 hj ⟨d6, st6, r6, u6, u, y, w', rfl⟩
          have hj : j < k := by omega
          simp only [List.set_cons_zero, List.set_cons_succ]
          refine ⟨_, rfl, _, rfl, a, sa, _, rfl, st6, by omega, by omega, fun fo H7 fo0 fo1 d7 st7 => ?_⟩
          simp only [List.set_cons_zero, List.set_cons_succ]
          refine ⟨fun σ H8 => Dr H6 H8 ∧ St H8 a sa ∧ ∃ (u y : Option V) (fo : Int), -1 ≤ fo ∧ fo < (ns : Int) ∧ σ = [some (.ref a), some (.int ns), some (.int k), some (.int so), some (.ref D), u, some (.ref D2), y, some (.int fo)], ?_, ?_⟩
          · refine ⟨_, rfl, _, rfl, a, sa, so, rfl, st7, hso.1, hso.2, fun v8 H8 v80 v81 d8 st8 => ⟨rfl, _, rfl, ?_⟩⟩
            by_cases h8 : v8 = 0
            · refine iteD (by rw [h8]) ?_
              exact ⟨_, rfl, d7.trans d8, st8, _, _, -1, Int.le_refl _, by omega, rfl⟩
            · refine iteDN (by intro z; exact h8 (V.int.inj z)) ?_
              exact ⟨d7.trans d8, st8, _, _, fo, by omega, fo1, rfl⟩
          · rintro σ H8 ⟨d8, st8, u, y, fo, fo2, fo3, rfl⟩
            obtain ⟨bs, b1, b2, b3⟩ := u6.keep d8
            refine ⟨_, rfl, .inl ⟨rfl, _, SqL.of b1⟩, ?_⟩
            refine ⟨_, rfl, _, rfl, a, sa, _, rfl, st8, by omega, by omega, fun w1 H9 w10 w11 d9 st9 => ?_⟩
            refine ⟨_, rfl, a, sa, 2, rfl, st9, by decide, by decide, fun w2 H10 w20 w21 d10 st10 => ?_⟩
            refine ⟨_, _, rfl, rfl, .inl (by decide), _, _, rfl, rfl, _, rfl, sz1000 (by show 3 ≤ 100000; decide), fun t ht => ?_⟩
            have s11 : Same H10 (upd H10 t (.tup [.int w1, .int (2 * w2 - 1), .int fo])) := Same.new ht
            have d11 : Dr H8 (upd H10 t (.tup [.int w1, .int (2 * w2 - 1), .int fo])) := d9.trans (d10.trans (Dr.same s11))
            have b1' := d11.keep _ _ b1 (ns_refs _)
            have st11 := (st10).same s11
            refine ⟨D2, _, _, rfl, rfl, b1', szlt (by rw [List.length_map]; omega), ?_⟩
            rw [refs_snoc]
            have okr : OkR ns k (w1, 2 * w2 - 1, fo) := by
              refine ⟨⟨w10, w11⟩, ?_, fo2, fo3⟩
              show 2 * w2 - 1 = 1 ∨ 2 * w2 - 1 = -1
              omega
            have tx : TX (upd H10 t (.tup [.int w1, .int (2 * w2 - 1), .int fo])) (upd (upd H10 t (.tup [.int w1, .int (2 * w2 - 1), .int fo])) D2 (.lst ((bs ++ [t]).map V.ref))) := TX.mut b1' (by intro xs z; cases z)
            obtain ⟨cs, c1, c2, c3⟩ := (r6.keep d8).keep d11
            have d12 : Dr H (upd (upd H10 t (.tup [.int w1, .int (2 * w2 - 1), .int fo])) D2 (.lst ((bs ++ [t]).map V.ref))) := (d6.trans (d8.trans d11)).mut hD20
            refine ⟨d12, ?_, ⟨cs, by rw [upd_ne nD]; exact c1, c2, fun c hc => (c3 c hc).keep tx⟩, ⟨bs ++ [t], upd_same, by rw [List.length_append, b2]; rfl, ?_⟩, _, _, _, rfl⟩
            · exact st11.upd (hst.new hD20)
            · exact ((b3.keep d11.tx).keep tx).snoc (u := (w1, 2 * w2 - 1, fo)) (tx _ _ upd_same) okr
        · rintro σ H6 ⟨d6, st6, r6, ⟨bs, b1, b2, b3⟩, u, y, w', rfl⟩
          have b2 : bs.length = k := by omega
          obtain ⟨cs, c1, c2, c3⟩ := r6
          refine ⟨_, rfl, .inl ⟨rfl, _, SqL.of c1⟩, _, rfl, D2, _, rfl, .inl ⟨SqL.of b1, fun z hz => ?_⟩⟩
          have s7 : Same H6 (upd H6 z (.tup (bs.map V.ref))) := Same.new hz
          have c1' := s7 _ _ c1
          refine ⟨D, _, _, rfl, rfl, c1', szlt (by rw [List.length_map]; omega), ?_⟩
          rw [refs_snoc]
          have tx : TX (upd H6 z (.tup (bs.map V.ref))) (upd (upd H6 z (.tup (bs.map V.ref))) D (.lst ((cs ++ [z]).map V.ref))) := TX.mut c1' (by intro xs z; cases z)
          refine ⟨(d6.trans (Dr.same s7)).mut hD0, ?_, ⟨cs ++ [z], upd_same, by rw [List.length_append, c2]; rfl, fun c hc => ?_⟩, _, _, _, _, rfl⟩
          · exact (st6.same s7).upd (hst.new hD0)
          · rcases List.mem_append.mp hc with hc | hc
            · exact (c3 c hc).keep ((TX.same s7).trans tx)
            · rw [List.mem_singleton.mp hc]
              exact ⟨bs, tx _ _ upd_same, b2, b3.keep ((TX.same s7).trans tx)⟩
      · rintro σ H5 ⟨d5, st5, ⟨cs, c1, c2, c3⟩, u, v, y, w', rfl⟩
        refine ⟨_, rfl, D, _, rfl, .inl ⟨SqL.of c1, fun z hz => ?_⟩⟩
        have s6 : Same H5 (upd H5 z (.tup (cs.map V.ref))) := Same.new hz
        obtain ⟨m, hm1, hm2⟩ := mch_of (ns := ns) (k := k) (show upd H5 z (.tup (cs.map V.ref)) z = _ from upd_same) (by omega) (fun b hb => (c3 b hb).keep (TX.same s6)) n0 n4 k2 k4
        exact q z m ns k _ (d5.trans (Dr.same s6)) (st5.same s6) hm1 hm2
end
end Tac
namespace Tac
open PySem PySem.Spec PyProof.Rows L2 TacR
section
variable {P : Program} {w : World} {K : PySem.W.Frag} {mg : Str → Option Value} {base : Heap}
variable {k : Nat}
/-! ### rows of ints in the making -/
def RowsI (H : Hp) (D : Addr) (n k : Nat) (A : AutT) : Prop := ∃ cs : List Addr, H D = some (.lst (cs.map V.ref)) ∧ Paired (TN H) cs A ∧ ∀ r ∈ A, r.length = k ∧ ∀ v ∈ r, Lt n v
theorem RowsI.nil {H : Hp} {D : Addr} {n : Nat} (h : H D = some (.lst [])) : RowsI H D n k [] := ⟨[], h, .nil, fun _ h => nomatch h⟩
theorem RowsI.keep {H H' : Hp} {D : Addr} {n : Nat} {A : AutT} (d : Dr H H') (h : RowsI H D n k A) : RowsI H' D n k A := by
  obtain ⟨cs, h1, h2, h3⟩ := h
  exact ⟨cs, d.keep _ _ h1 (ns_refs _), Paired.mono (fun _ _ z => TN.keep d.tx z) h2, h3⟩
theorem RowsI.snoc {H : Hp} {D z : Addr} {n : Nat} {A : AutT} {r : List Int} (h : RowsI H D n k A) (hz : TN H z r) (hl : r.length = k) (hr : ∀ v ∈ r, Lt n v) : ∃ cs : List Addr, H D = some (.lst (cs.map V.ref)) ∧ cs.length = A.length ∧ RowsI (upd H D (.lst ((cs ++ [z]).map V.ref))) D n k (A ++ [r]) := by
  obtain ⟨cs, h1, h2, h3⟩ := h
  have tx : TX H (upd H D (.lst ((cs ++ [z]).map V.ref))) := TX.mut h1 (by intro xs z; cases z)
  refine ⟨cs, h1, Paired.length h2, cs ++ [z], upd_same, paired_snoc (Paired.mono (fun _ _ q => TN.keep tx q) h2) (TN.keep tx hz), fun q hq => ?_⟩
  rcases List.mem_append.mp hq with g | g
  · exact h3 q g
  · rw [List.mem_singleton.mp g]
    exact ⟨hl, hr⟩
/-- a tuple of them -/
theorem RowsI.aut {H : Hp} {D z : Addr} {A : AutT} {cs : List Addr} (h : RowsI H D A.length k A) (h1 : H D = some (.lst (cs.map V.ref))) (hz : H z = none) (p : 0 < A.length) (l : A.length ≤ 9) (h0 : nx A 0 0 = 0) :
    T2 (upd H z (.tup (cs.map V.ref))) z A ∧ Aut A k := by
  obtain ⟨cs', g1, g2, g3⟩ := h
  have e : cs = cs' := by
    rw [h1] at g1
    exact (List.map_inj_right (f := V.ref) (fun x y h => by cases h; rfl)).mp (HO.lst.inj (Option.some.inj g1))
  subst e
  exact ⟨⟨cs, upd_same, Paired.mono (fun _ _ q => TN.keep (TX.new hz) q) g2⟩, p, l, g3, h0⟩
/-! ### _law_automaton -/
def spAutom : Sp := fun vs H Q _ => ∃ (a sa : Addr) (k : Nat) (most : Int), vs = [.ref a, .int k, .int most] ∧ St H a sa ∧ 2 ≤ k ∧ k ≤ 4 ∧ 0 < most ∧ most ≤ 8 ∧ ∀ (z : Addr) (A : AutT) H', Dr H H' → St H' a sa → T2 H' z A → Aut A k → Q (.ref z) H'
abbrev nAutom : List Str := ["_law_stream_here", "_law_symbols", "_law_most", "_law_many", "_law_rows", "_law_q", "_law_row", "_law_x"]
theorem scAutom : FnScope nAutom ["_law_stream_here", "_law_symbols", "_law_most"] (defScope (top 25)) := ⟨rfl, rfl, rfl, by decide +kernel, rfl, by decide +kernel, by decide +kernel⟩
theorem ok_autom {f fD : Addr} {fd fdD : FuncData} (F : FnP K "_law_automaton" "_law_automaton" (top 25) f fd) (G : Gx mg) (FD : FnP K "_law_draw" "_law_draw" (top 19) fD fdD) (gD : mg "_law_draw" = some (.ref fD)) :
    FnOk P w K mg base CX0 2 f fd ["_law_stream_here", "_law_symbols", "_law_most"] spAutom := by
  have GD : FnOk P w K mg base CX0 1 fD fdD ["_law_stream_here", "_law_many"] spDraw := ok_draw FD G
  have bD : Binds K fdD ["_law_stream_here", "_law_many"] [] := FD.bindsN fun _ _ _ _ _ _ us hl => match us, hl with | [_, _], _ => rfl
  refine F.ok scAutom (fun vs H Q E h => ?_) (fun cdv A' outer s H vs Q E' hr h => ?_)
  · obtain ⟨a, sa, k, most, rfl, _⟩ := h
    rfl
  · obtain ⟨a, sa, k, most, rfl, hst, k2, k4, m0, m8, q⟩ := h
    refine ⟨_, pss_cons (ps_set (i := 3) scAutom.nd rfl (Or.inr rfl) (pe_op op_add pe_int (pe_call GD hr (by rfl) gD FD.kp bD .nil pass0 (pa_cons (pv 0) (pa_cons (pv 2) pa_nil)))))
      (pss_cons (ps_set (i := 4) scAutom.nd rfl (Or.inl rfl) (pe_lst pa_nil))
      (pss_cons (ps_for PassesOwn.never rfl (pi_range1 (by rfl) G.range (pa_cons (pv 3) pa_nil)) (pg_name (i := 5) scAutom.nd rfl (Or.inl rfl))
        (pss_cons (ps_setLc (i := 6) (own := [("_law_x", 7)]) (g := gName 7) (tt := tYes) rfl scAutom.nd rfl rfl (sw_true rfl rfl rfl (by decide +kernel)) (pi_range1 (by rfl) G.range (pa_cons (pv 1) pa_nil)) (blkOk_by (N := nAutom) (sc := defScope (top 25)) (by decide +kernel))
          (fun _ _ _ _ _ => pg_name (i := 7) scAutom.nd rfl (Or.inl rfl)) (fun _ _ _ _ _ => pts_nil) (fun _ _ _ _ _ => pe_call GD hr (by rfl) gD FD.kp bD .nil pass0 (pa_cons (pv 0) (pa_cons (pv 3) pa_nil))))
        (Evl.pss_cut (ps_if (pt_cmpR op_eq (pv 5) pe_int (nomark _)) (pss_one (ps_asg pe_int (pg_sub (pv 6) pe_int set_list))) pss_nil)
        (pss_one (ps_expr (pe_bm PySem.F.plainAttrs_list PySem.F.slot_list_append PySem.F.type_list_append mt_append (pv 4) (pa_cons (pe_callTy (tuple_K (K := K) rfl) (by rfl) G.tuple (by decide +kernel) (pa_cons (pv 6) pa_nil)) pa_nil)))))))
      (pss_one (ps_ret (pe_callTy (tuple_K (K := K) rfl) (by rfl) G.tuple (by decide +kernel) (pa_cons (pv 4) pa_nil)))))), ?_⟩
    rw [show L2.start nAutom [V.ref a, V.int k, V.int most] = [some (V.ref a), some (V.int k), some (V.int most), none, none, none, none, none] from rfl]
    refine ⟨_, rfl, _, rfl, a, sa, most, rfl, hst, m0, by omega, fun v1 H1 v10 v11 d1 st1 => ⟨_, _, rfl, rfl, ?_⟩⟩
    obtain ⟨n, hn⟩ := nat_of (show 0 ≤ 1 + v1 by omega)
    show gName 3 (V.int (1 + v1)) _ _ _
    rw [hn]
    have n0 : 0 < n := by omega
    have n8 : n ≤ 8 := by omega
    simp only [List.set_cons_zero, List.set_cons_succ]
    refine ⟨Nat.zero_le _, fun D hD => ?_⟩
    have hD0 := d1.dom _ hD
    have s2 : Same H1 (upd H1 D (.lst [])) := Same.new hD
    simp only [List.set_cons_zero, List.set_cons_succ]
    refine ⟨_, rfl, (n : Int), rfl, by omega, by omega, for_range (fun i σ H' => Dr H H' ∧ St H' a sa ∧ (∃ A : AutT, RowsI H' D n k A ∧ A.length = i ∧ nx A 0 0 = 0) ∧ ∃ u v, σ = [some (.ref a), some (.int k), some (.int most), some (.int n), some (.ref D), u, v, none])
      ⟨d1.trans (Dr.same s2), st1.same s2, ⟨[], RowsI.nil upd_same, rfl, rfl⟩, none, none, rfl⟩ ?_ ?_⟩
    · rintro i σ H2 hi ⟨d2, st2, ⟨A, r2, hA, hA0⟩, u, v, rfl⟩
      have hi : i < n := by omega
      simp only [List.set_cons_zero, List.set_cons_succ]
      refine ⟨_, rfl, (k : Int), rfl, by omega, by omega, fun D2 hD2 => lc_range (lo := 0) (n := ((k : Int)).toNat) (fun j H' => Dr H2 H' ∧ St H' a sa ∧ ∃ rs : List Int, H' D2 = some (.lst (rs.map V.int)) ∧ rs.length = j ∧ ∀ x ∈ rs, Lt n x)
        ⟨Dr.same (Same.new hD2), st2.same (Same.new hD2), [], upd_same, rfl, (fun _ h => nomatch h)⟩ ?_ ?_⟩
      · rintro j H3 hj ⟨d3, st3, rs, r1, r2', r3⟩
        have hj : j < k := by omega
        refine ⟨rfl, yesT ?_⟩
        refine ⟨_, rfl, _, rfl, a, sa, _, rfl, st3, by omega, by omega, fun x H4 x0 x1 d4 st4 => ?_⟩
        have r1' := d4.keep _ _ r1 (ns_ints _)
        refine ⟨_, r1', szlt (by rw [List.length_map]; omega), (d3.trans d4).mut hD2, st4.upd (st2.new hD2), rs ++ [x], by rw [upd_same, List.map_append]; rfl, by rw [List.length_append, r2']; rfl, fun y hy => ?_⟩
        rcases List.mem_append.mp hy with g | g
        · exact r3 y g
        · rw [List.mem_singleton.mp g]
          exact ⟨x0, x1⟩
      · rintro H3 ⟨d3, st3, rs, r1, rl, r3⟩
        have rl : rs.length = k := by omega
        simp only [List.set_cons_zero, List.set_cons_succ]
        have hD20 := d2.dom _ hD2
        have nD : D ≠ D2 := by
          obtain ⟨cs, c1, _⟩ := r2
          exact ne_of_none c1 hD2
        refine ⟨fun σ H4 => Dr H2 H4 ∧ St H4 a sa ∧ (∃ rs : List Int, H4 D2 = some (.lst (rs.map V.int)) ∧ rs.length = k ∧ (∀ x ∈ rs, Lt n x) ∧ (i = 0 → rs[0]? = some 0)) ∧ ∃ u, σ = [some (.ref a), some (.int k), some (.int most), some (.int n), some (.ref D), u, some (.ref D2), none], ?_, ?_⟩
        · refine ⟨_, rfl, rfl, _, rfl, ?_⟩
          by_cases hi0 : i = 0
          · refine iteD (by rw [hi0]; rfl) ?_
            refine ⟨_, rfl, D2, _, 0, 0, rfl, rfl, r1, ?_, ?_⟩
            · unfold ixN
              rw [if_pos (by decide), if_pos (by rw [List.length_map]; omega)]
              rfl
            · refine ⟨d3.mut hD2, st3.upd (st2.new hD2), ⟨rs.set 0 0, by rw [upd_same, List.map_set], by rw [List.length_set]; exact rl, fun x hx => ?_, fun _ => ?_⟩, _, rfl⟩
              · rcases List.mem_or_eq_of_mem_set hx with g | g
                · exact r3 x g
                · rw [g]
                  exact ⟨Int.le_refl _, by omega⟩
              · rw [List.getElem?_set_self (by omega)]
          · refine iteDN (by intro z; have := V.int.inj z; omega) ?_
            exact ⟨d3, st3, ⟨rs, r1, rl, r3, fun e => absurd e hi0⟩, _, rfl⟩
        · rintro σ H4 ⟨d4, st4, ⟨rs, r1, rl, r3, r0⟩, u, rfl⟩
          have rD := r2.keep d4
          have hDl : ∃ xs, SqL K H4 D xs := by
            obtain ⟨cs, c1, _⟩ := rD
            exact ⟨_, SqL.of c1⟩
          refine ⟨_, rfl, .inl ⟨rfl, hDl⟩, _, rfl, D2, _, rfl, .inl ⟨SqL.of r1, fun z hz => ?_⟩⟩
          have s5 : Same H4 (upd H4 z (.tup (rs.map V.int))) := Same.new hz
          obtain ⟨cs, c1, c2, c3⟩ := (rD.keep (Dr.same s5)).snoc (z := z) (r := rs) (show TN _ z rs from upd_same) rl r3
          refine ⟨D, _, _, rfl, rfl, c1, szlt (by rw [List.length_map]; omega), ?_⟩
          rw [refs_snoc]
          refine ⟨((d2.trans d4).trans (Dr.same s5)).mut hD0, (st4.same s5).upd (hst.new hD0), ⟨A ++ [rs], c3, by rw [List.length_append, hA]; rfl, ?_⟩, _, _, rfl⟩
          by_cases hi0 : i = 0
          · have e : A = [] := List.length_eq_zero_iff.mp (by omega)
            rw [e]
            show ((([rs] : List (List Int))[0]?).getD [])[0]?.getD 0 = 0
            show (rs[0]?).getD 0 = 0
            rw [r0 hi0]
            rfl
          · have : (A ++ [rs])[0]? = A[0]? := List.getElem?_append_left (by omega)
            show (((A ++ [rs])[0]?).getD [])[0]?.getD 0 = 0
            rw [this]
            exact hA0
    · rintro σ H2 ⟨d2, st2, ⟨A, r2, hA, hA0⟩, u, v, rfl⟩
      have hA : A.length = n := by omega
      have hDl : ∃ cs : List Addr, H2 D = some (.lst (cs.map V.ref)) := by
        obtain ⟨cs, c1, _⟩ := r2
        exact ⟨cs, c1⟩
      obtain ⟨cs, c1⟩ := hDl
      refine ⟨_, rfl, D, _, rfl, .inl ⟨SqL.of c1, fun z hz => ?_⟩⟩
      subst hA
      obtain ⟨t1, t2⟩ := r2.aut c1 hz n0 (by omega) hA0
      exact q z A _ (d2.trans (Dr.same (Same.new hz))) (st2.same (Same.new hz)) t1 t2
/-! ### _law_gram -/
def gramR (n k i j : Nat) : List Int := (List.range j).map fun (x : Nat) => ((i : Int) * (k : Int) + (x : Int)) % (n : Int)
theorem gramR_len (n k i j : Nat) : (gramR n k i j).length = j := by unfold gramR; rw [List.length_map, List.length_range]
theorem gramR_succ (n k i j : Nat) : gramR n k i (j + 1) = gramR n k i j ++ [((i : Int) * (k : Int) + (j : Int)) % (n : Int)] := by unfold gramR; rw [List.range_succ, List.map_append]; rfl
theorem gramR_in {n k i j : Nat} (h : 0 < n) : ∀ v ∈ gramR n k i j, Lt n v := fun v hv => by
  obtain ⟨x, _, rfl⟩ := List.mem_map.mp hv
  exact ⟨Int.emod_nonneg _ (by omega), Int.emod_lt_of_pos _ (by omega)⟩
def gramA (n k i : Nat) : AutT := (List.range i).map fun q => gramR n k q k
theorem gramA_len (n k i : Nat) : (gramA n k i).length = i := by unfold gramA; rw [List.length_map, List.length_range]
theorem gramA_succ (n k i : Nat) : gramA n k (i + 1) = gramA n k i ++ [gramR n k i k] := by unfold gramA; rw [List.range_succ, List.map_append]; rfl
theorem gramA_zero {n k : Nat} (h : 0 < n) (hk : 0 < k) : nx (gramA n k n) 0 0 = 0 := by
  obtain ⟨n', rfl⟩ : ∃ n', n = n' + 1 := ⟨n - 1, by omega⟩
  obtain ⟨k', rfl⟩ : ∃ k', k = k' + 1 := ⟨k - 1, by omega⟩
  have e1 : (gramA (n' + 1) (k' + 1) (n' + 1))[(0 : Int).toNat]? = some (gramR (n' + 1) (k' + 1) 0 (k' + 1)) := by
    unfold gramA
    rw [List.getElem?_map, List.getElem?_range (by omega)]
    rfl
  have e2 : (gramR (n' + 1) (k' + 1) 0 (k' + 1))[(0 : Int).toNat]? = some 0 := by
    unfold gramR
    rw [List.getElem?_map, List.getElem?_range (by omega)]
    simp
  unfold nx
  rw [e1]
  show ((gramR (n' + 1) (k' + 1) 0 (k' + 1))[(0 : Int).toNat]?).getD 0 = 0
  rw [e2]
  rfl
def spGram : Sp := fun vs H Q _ => ∃ (c k : Nat), vs = [.int c, .int k] ∧ 2 ≤ k ∧ k ≤ 4 ∧ c ≤ 100 ∧ k ^ c ≤ 9 ∧ ∀ (z : Addr) (A : AutT) H', Same H H' → T2 H' z A → Aut A k → Q (.ref z) H'
abbrev nGram : List Str := ["_law_count", "_law_symbols", "_law_many", "_law_k", "_law_q", "_law_x"]
theorem scGram : FnScope nGram ["_law_count", "_law_symbols"] (defScope (top 26)) := ⟨rfl, rfl, rfl, by decide +kernel, rfl, by decide +kernel, by decide +kernel⟩
theorem ok_gram {f : Addr} {fd : FuncData} (F : FnP K "_law_gram" "_law_gram" (top 26) f fd) (G : Gx mg) : FnOk P w K mg base CX0 1 f fd ["_law_count", "_law_symbols"] spGram := by
  refine F.ok scGram (fun vs H Q E h => ?_) (fun cdv A' outer s H vs Q E' hr h => ?_)
  · obtain ⟨c, k, rfl, _⟩ := h
    rfl
  · obtain ⟨c, k, rfl, k2, k4, c100, hp, q⟩ := h
    refine ⟨_, pss_cons (ps_set (i := 2) scGram.nd rfl (Or.inr rfl) pe_int)
      (pss_cons (ps_for PassesOwn.never rfl (pi_range1 (by rfl) G.range (pa_cons (pv 0) pa_nil)) (pg_name (i := 3) scGram.nd rfl (Or.inl rfl))
        (pss_one (ps_set (i := 2) scGram.nd rfl (Or.inr rfl) (pe_op op_mul (pv 2) (pv 1)))))
      (pss_one (ps_ret (pe_callTy (tuple_K (K := K) rfl) (by rfl) G.tuple (by decide +kernel) (pa_cons (pe_lc (own := [("_law_q", 4)]) (g := gName 4) (tt := tYes) rfl scGram.nd (pi_range1 (by rfl) G.range (pa_cons (pv 2) pa_nil)) (blkOk_by (N := nGram) (sc := defScope (top 26)) (by decide +kernel))
        (fun _ _ _ _ _ => pg_name (i := 4) scGram.nd rfl (Or.inr rfl)) (fun _ _ _ _ _ => pts_nil)
        (fun _ _ _ _ _ => pe_callTy (tuple_K (K := K) rfl) (by rfl) G.tuple (by decide +kernel) (pa_cons (pe_lc (own := [("_law_x", 5)]) (g := gName 5) (tt := tYes) rfl scGram.nd (pi_range1 (by rfl) G.range (pa_cons (pv 1) pa_nil)) (blk_in (sc := lcSc (arg0 (asgE (bodyAt 26 2)))) (o := defScope (top 26)) rfl (blkOk_by (N := nGram) (by decide +kernel)))
          (fun _ _ _ _ _ => pg_name (i := 5) scGram.nd rfl (Or.inl rfl)) (fun _ _ _ _ _ => pts_nil)
          (fun _ _ _ _ _ => pe_op op_mod (pe_callTy call_int1 (by rfl) G.int (by decide +kernel) (pa_cons (pe_op op_add (pe_op op_mul (pv 4) (pv 1)) (pv 5)) pa_nil)) (pv 2))) pa_nil))) pa_nil))))), ?_⟩
    rw [show L2.start nGram [V.int c, V.int k] = [some (V.int c), some (V.int k), none, none, none, none] from rfl]
    have hk64 : -(2 ^ 64 : Int) < (k : Int) ∧ (k : Int) < 2 ^ 64 := ⟨by omega, by omega⟩
    refine ⟨_, rfl, (c : Int), rfl, by omega, by omega, for_range (fun i σ H' => H' = H ∧ ∃ u, σ = [some (.int c), some (.int k), some (.int ((k ^ i : Nat) : Int)), u, none, none]) ⟨rfl, none, rfl⟩ ?_ ?_⟩
    · rintro i σ H1 hi ⟨rfl, u, rfl⟩
      simp only [List.set_cons_zero, List.set_cons_succ]
      refine ⟨_, rfl, _, rfl, _, _, rfl, rfl, .inr hk64, rfl, some (.int (0 + (i : Int))), ?_⟩
      show [some (V.int c), some (V.int k), some (V.int (((k ^ i : Nat) : Int) * (k : Int))), some (V.int (0 + (i : Int))), none, none] = _
      rw [← Int.natCast_mul, ← Nat.pow_succ]
    · rintro σ H1 ⟨rfl, u, rfl⟩
      rw [show ((c : Int)).toNat = c by omega]
      have p0 : 0 < k ^ c := Nat.pow_pos (by omega)
      generalize k ^ c = n at hp p0
      refine ⟨_, rfl, (n : Int), rfl, by omega, by omega, fun D hD => lc_range (lo := 0) (n := ((n : Int)).toNat) (fun i H' => Same H1 H' ∧ RowsI H' D n k (gramA n k i)) ⟨Same.new hD, RowsI.nil upd_same⟩ ?_ ?_⟩
      · rintro i H2 hi ⟨s2, r2⟩
        have hi : i < n := by omega
        refine ⟨rfl, yesT ?_⟩
        refine ⟨_, rfl, (k : Int), rfl, by omega, by omega, fun D2 hD2 => lc_range (lo := 0) (n := ((k : Int)).toNat) (fun j H' => Same H2 H' ∧ H' D2 = some (.lst ((gramR n k i j).map V.int))) ⟨Same.new hD2, upd_same⟩ ?_ ?_⟩
        · rintro j H3 hj ⟨s3, r3⟩
          have hj : j < k := by omega
          refine ⟨rfl, yesT ?_⟩
          refine ⟨_, rfl, _, rfl, _, _, rfl, rfl, .inr hk64, _, rfl, _, _, rfl, rfl, .inl ⟨_, rfl, _, rfl, _, _, rfl, rfl, (show (0 : Int) < (n : Int) by omega), ?_⟩⟩
          refine ⟨_, r3, szlt (by rw [List.length_map, gramR_len]; omega), Same.mut s3 hD2, ?_⟩
          rw [upd_same, gramR_succ, List.map_append]
          rw [show (0 : Int) + (i : Int) = (i : Int) by omega, show (0 : Int) + (j : Int) = (j : Int) by omega]
          rfl
        · rintro H3 ⟨s3, r3⟩
          rw [show ((k : Int)).toNat = k by omega] at r3
          refine ⟨D2, _, rfl, .inl ⟨SqL.of r3, fun z hz => ?_⟩⟩
          have s4 : Same H3 (upd H3 z (.tup ((gramR n k i k).map V.int))) := Same.new hz
          obtain ⟨cs, c1, c2, c3⟩ := ((r2.keep (Dr.same s3)).keep (Dr.same s4)).snoc (z := z) (r := gramR n k i k) (show TN _ z _ from upd_same) (gramR_len ..) (gramR_in p0)
          rw [gramA_len] at c2
          refine ⟨_, c1, szlt (by rw [List.length_map]; omega), ?_⟩
          rw [refs_snoc, gramA_succ]
          exact ⟨Same.mut (s2.trans (s3.trans s4)) hD, c3⟩
      · rintro H2 ⟨s2, r2⟩
        rw [show ((n : Int)).toNat = n by omega] at r2
        have hDl : ∃ cs : List Addr, H2 D = some (.lst (cs.map V.ref)) := by
          obtain ⟨cs, c1, _⟩ := r2
          exact ⟨cs, c1⟩
        obtain ⟨cs, c1⟩ := hDl
        refine ⟨D, _, rfl, .inl ⟨SqL.of c1, fun z hz => ?_⟩⟩
        have r2 : RowsI H2 D (gramA n k n).length k (gramA n k n) := by rw [gramA_len]; exact r2
        obtain ⟨t1, t2⟩ := r2.aut c1 hz (by rw [gramA_len]; omega) (by rw [gramA_len]; omega) (gramA_zero p0 (by omega))
        exact q z _ _ (s2.trans (Same.new hz)) t1 t2
end
end Tac
namespace Tac
open PySem PySem.Spec PyProof.Rows L2 TacR
section
variable {P : Program} {w : World} {K : PySem.W.Frag} {mg : Str → Option Value} {base : Heap}
/-! ### _law_sides -/
def spSides : Sp := fun vs H Q _ => ∃ (a sa mach : Addr) (m : MchT) (ns k : Nat), vs = [.ref a, .ref mach] ∧ St H a sa ∧ TM H mach m ∧ Mch m ns k ∧
  ∀ (z l r : Addr) (A : Bool → AutT) H', Dr H H' → St H' a sa → H' z = some (.lst [.ref l, .ref r]) → T2 H' l (A false) → T2 H' r (A true) → (∀ b, Aut (A b) k) → Q (.ref z) H'
abbrev nSides : List Str := ["_law_stream_here", "_law_machine_here", "_law_symbols", "_law_pick", "_law_most", "_law_many"]
theorem scSides : FnScope nSides ["_law_stream_here", "_law_machine_here"] (defScope (top 27)) := ⟨rfl, rfl, rfl, by decide +kernel, rfl, by decide +kernel, by decide +kernel⟩
/-- the list of two -/
theorem two_done {H : Hp} {z l r : Addr} {A0 A1 : AutT} {k : Nat} {a sa : Addr} {Q : VK} {H0 : Hp} (q : ∀ (z l r : Addr) (A : Bool → AutT) H', Dr H0 H' → St H' a sa → H' z = some (.lst [.ref l, .ref r]) → T2 H' l (A false) → T2 H' r (A true) → (∀ b, Aut (A b) k) → Q (.ref z) H')
    (hz : H z = none) (d : Dr H0 H) (st : St H a sa) (h0 : T2 H l A0) (h1 : T2 H r A1) (g0 : Aut A0 k) (g1 : Aut A1 k) : Q (.ref z) (upd H z (.lst [.ref l, .ref r])) := by
  have s : Same H (upd H z (.lst [.ref l, .ref r])) := Same.new hz
  refine q z l r (fun b => if b = true then A1 else A0) _ (d.trans (Dr.same s)) (st.same s) upd_same (h0.keep (TX.same s)) (h1.keep (TX.same s)) fun b => ?_
  cases b with
  | true => exact g1
  | false => exact g0
theorem ok_sides {f fD fA fG : Addr} {fd fdD fdA fdG : FuncData} (F : FnP K "_law_sides" "_law_sides" (top 27) f fd) (G : Gx mg) (FD : FnP K "_law_draw" "_law_draw" (top 19) fD fdD) (gD : mg "_law_draw" = some (.ref fD))
    (FA : FnP K "_law_automaton" "_law_automaton" (top 25) fA fdA) (gA : mg "_law_automaton" = some (.ref fA)) (FG : FnP K "_law_gram" "_law_gram" (top 26) fG fdG) (gG : mg "_law_gram" = some (.ref fG)) :
    FnOk P w K mg base CX0 3 f fd ["_law_stream_here", "_law_machine_here"] spSides := by
  have GD : FnOk P w K mg base CX0 1 fD fdD ["_law_stream_here", "_law_many"] spDraw := ok_draw FD G
  have GA : FnOk P w K mg base CX0 2 fA fdA ["_law_stream_here", "_law_symbols", "_law_most"] spAutom := ok_autom FA G FD gD
  have GG : FnOk P w K mg base CX0 1 fG fdG ["_law_count", "_law_symbols"] spGram := ok_gram FG G
  have bD : Binds K fdD ["_law_stream_here", "_law_many"] [] := FD.bindsN fun _ _ _ _ _ _ us hl => match us, hl with | [_, _], _ => rfl
  have bA : Binds K fdA ["_law_stream_here", "_law_symbols", "_law_most"] [] := FA.bindsN fun _ _ _ _ _ _ us hl => match us, hl with | [_, _, _], _ => rfl
  have bG : Binds K fdG ["_law_count", "_law_symbols"] [] := FG.bindsN fun _ _ _ _ _ _ us hl => match us, hl with | [_, _], _ => rfl
  refine F.ok scSides (fun vs H Q E h => ?_) (fun cdv A' outer s H vs Q E' hr h => ?_)
  · obtain ⟨a, sa, mach, m, ns, k, rfl, _⟩ := h
    rfl
  · obtain ⟨a, sa, mach, m, ns, k, rfl, hst, hm, hM, q⟩ := h
    have hr1 : Room 1 _ := hr.mono (by decide)
    refine ⟨_, pss_cons (ps_set (i := 2) scSides.nd rfl (Or.inl rfl) (pe_callB (len_K (K := K) rfl) (by rfl) G.len PySem.boot_len (pa_cons (pe_ix (ixT_K (K := K) rfl) (pv 1) pe_int (fun _ _ => rfl)) pa_nil)))
      (pss_cons (ps_set (i := 3) scSides.nd rfl (Or.inl rfl) (pe_call GD hr1 (by rfl) gD FD.kp bD .nil pass0 (pa_cons (pv 0) (pa_cons pe_int pa_nil))))
      (pss_cons (ps_if (pt_cmpR op_eq (pv 3) pe_int (nomark _)) (pss_one (ps_ret (pe_lst (pa_cons (pe_call GA hr (by rfl) gA FA.kp bA .nil pass0 (pa_cons (pv 0) (pa_cons (pv 2) (pa_cons pe_int pa_nil)))) (pa_cons (pe_call GA hr (by rfl) gA FA.kp bA .nil pass0 (pa_cons (pv 0) (pa_cons (pv 2) (pa_cons pe_int pa_nil)))) pa_nil))))) pss_nil)
      (pss_cons (ps_set (i := 4) scSides.nd rfl (Or.inl rfl) (pe_ix (ixL_K (K := K) rfl) (pe_lst (pa_cons pe_int (pa_cons pe_int (pa_cons pe_int pa_nil)))) (pe_op op_sub (pv 2) pe_int) (fun _ _ => rfl)))
      (pss_cons (ps_if (pt_cmpR op_eq (pv 3) pe_int (nomark _)) (pss_one (ps_ret (pe_lst (pa_cons (pe_call GG hr1 (by rfl) gG FG.kp bG .nil pass0 (pa_cons (pe_call GD hr1 (by rfl) gD FD.kp bD .nil pass0 (pa_cons (pv 0) (pa_cons (pe_op op_add (pv 4) pe_int) pa_nil))) (pa_cons (pv 2) pa_nil)))
          (pa_cons (pe_call GG hr1 (by rfl) gG FG.kp bG .nil pass0 (pa_cons (pe_call GD hr1 (by rfl) gD FD.kp bD .nil pass0 (pa_cons (pv 0) (pa_cons (pe_op op_add (pv 4) pe_int) pa_nil))) (pa_cons (pv 2) pa_nil))) pa_nil))))) pss_nil)
      (pss_cons (ps_set (i := 5) scSides.nd rfl (Or.inl rfl) (pe_op op_add pe_int (pe_call GD hr1 (by rfl) gD FD.kp bD .nil pass0 (pa_cons (pv 0) (pa_cons (pv 4) pa_nil)))))
      (Evl.pss_cut (ps_if (PW.pt (pw_and (pt_cmpR op_eq (pv 2) pe_int (nomark _)) (pw_and1 (pt_cmpR op_eq (pe_call GD hr1 (by rfl) gD FD.kp bD .nil pass0 (pa_cons (pv 0) (pa_cons pe_int pa_nil))) pe_int (nomark _))))) (pss_one (ps_set (i := 5) scSides.nd rfl (Or.inl rfl) pe_int)) pss_nil)
      (pss_one (ps_ret (pe_lst (pa_cons (pe_call GG hr1 (by rfl) gG FG.kp bG .nil pass0 (pa_cons (pv 5) (pa_cons (pv 2) pa_nil))) (pa_cons (pe_call GG hr1 (by rfl) gG FG.kp bG .nil pass0 (pa_cons (pv 5) (pa_cons (pv 2) pa_nil))) pa_nil))))))))))), ?_⟩
    rw [show L2.start nSides [V.ref a, V.ref mach] = [some (V.ref a), some (V.ref mach), none, none, none, none] from rfl]
    obtain ⟨b0, xs0, ys0, m1, m2, m3, m4⟩ := hm.row0 hM
    refine ⟨_, rfl, mach, _, _, _, rfl, rfl, SqT.of m1, m2, b0, _, rfl, .inr (SqT.of m3), ?_⟩
    rw [m4]
    have k2 := hM.kLo
    have k4 := hM.kHi
    simp only [List.set_cons_zero, List.set_cons_succ]
    refine ⟨_, rfl, a, sa, 4, rfl, hst, by decide, by decide, fun v1 H1 v10 v11 d1 st1 => ?_⟩
    simp only [List.set_cons_zero, List.set_cons_succ]
    refine ⟨_, rfl, rfl, _, rfl, ?_⟩
    by_cases h0 : v1 = 0
    · refine iteD (by rw [h0]) ?_
      refine ⟨_, rfl, _, rfl, a, sa, k, 4, rfl, st1, k2, k4, by decide, by decide, fun z0 A0 H2 d2 st2 t0 g0 => ?_⟩
      refine ⟨_, rfl, _, rfl, a, sa, k, 4, rfl, st2, k2, k4, by decide, by decide, fun z1 A1 H3 d3 st3 t1 g1 => ?_⟩
      exact ⟨sz1000 (by show 2 ≤ 100000; decide), fun z hz => two_done q hz (d1.trans (d2.trans d3)) st3 (t0.keep d3.tx) t1 g0 g1⟩
    · refine iteDN (by intro z; exact h0 (V.int.inj z)) ?_
      refine ⟨sz1000 (by show 3 ≤ 100000; decide), fun l2 hl2 => ?_⟩
      have s2 : Same H1 (upd H1 l2 (.lst [.int 2, .int 2, .int 1])) := Same.new hl2
      have d2 := d1.trans (Dr.same s2)
      have st2 := st1.same s2
      obtain ⟨y, hy1, hy2, hy3, hy4⟩ : ∃ y : Nat, atI [V.int 2, V.int 2, V.int 1] ((k : Int) - 2) = some (.int (y : Int)) ∧ 1 ≤ y ∧ y ≤ 2 ∧ ∀ c, c ≤ y → k ^ c ≤ 9 := by
        have : k = 2 ∨ k = 3 ∨ k = 4 := by omega
        rcases this with e | e | e
        · subst e
          exact ⟨2, rfl, by decide, by decide, by decide⟩
        · subst e
          exact ⟨2, rfl, by decide, by decide, by decide⟩
        · subst e
          exact ⟨1, rfl, by decide, by decide, by decide⟩
      refine ⟨_, rfl, _, _, rfl, rfl, l2, _, _, _, rfl, rfl, SqL.of upd_same, hy1, ?_⟩
      simp only [List.set_cons_zero, List.set_cons_succ]
      clear st1 hst
      generalize upd H1 l2 (.lst [.int 2, .int 2, .int 1]) = H2 at d2 st2
      refine ⟨_, rfl, rfl, _, rfl, ?_⟩
      by_cases h1 : v1 = 1
      · refine iteD (by rw [h1]) ?_
        refine ⟨_, rfl, _, rfl, _, _, rfl, rfl, a, sa, _, rfl, st2, by omega, by omega, fun c0 H3 c00 c01 d3 st3 => ?_⟩
        obtain ⟨e0, he0⟩ := nat_of c00
        subst he0
        refine ⟨_, rfl, e0, k, rfl, k2, k4, by omega, hy4 _ (by omega), fun z0 A0 H4 s4 t0 g0 => ?_⟩
        refine ⟨_, rfl, _, rfl, _, _, rfl, rfl, a, sa, _, rfl, st3.same s4, by omega, by omega, fun c1 H5 c10 c11 d5 st5 => ?_⟩
        obtain ⟨e1, he1⟩ := nat_of c10
        subst he1
        refine ⟨_, rfl, e1, k, rfl, k2, k4, by omega, hy4 _ (by omega), fun z1 A1 H6 s6 t1 g1 => ?_⟩
        exact ⟨sz1000 (by show 2 ≤ 100000; decide), fun z hz => two_done q hz (d2.trans (d3.trans ((Dr.same s4).trans (d5.trans (Dr.same s6))))) (st5.same s6) ((t0.keep d5.tx).keep (TX.same s6)) t1 g0 g1⟩
      · refine iteDN (by intro z; exact h1 (V.int.inj z)) ?_
        refine ⟨_, rfl, _, rfl, a, sa, _, rfl, st2, by omega, by omega, fun c0 H3 c00 c01 d3 st3 => ⟨_, _, rfl, rfl, ?_⟩⟩
        obtain ⟨c, hc⟩ := nat_of (show 0 ≤ 1 + c0 by omega)
        show gName 5 (V.int (1 + c0)) _ _ _
        rw [hc]
        simp only [List.set_cons_zero, List.set_cons_succ]
        refine ⟨fun σ H4 => Dr H3 H4 ∧ St H4 a sa ∧ ∃ c : Nat, c ≤ 3 ∧ k ^ c ≤ 9 ∧ σ = [some (.ref a), some (.ref mach), some (.int k), some (.int v1), some (.int y), some (.int c)], ?_, ?_⟩
        · refine ⟨_, rfl, rfl, _, rfl, ?_⟩
          by_cases hk : k = 2
          · refine iteD (by rw [hk]; rfl) ?_
            refine ⟨_, rfl, a, sa, 4, rfl, st3, by decide, by decide, fun x H4 x0 x1 d4 st4 => ⟨rfl, _, rfl, ?_⟩⟩
            by_cases hx : x = 0
            · refine iteD (by rw [hx]) ?_
              exact ⟨d4, st4, 3, Nat.le_refl _, by rw [hk]; decide, rfl⟩
            · refine iteDN (by intro z; exact hx (V.int.inj z)) ?_
              exact ⟨d4, st4, c, by omega, hy4 c (by omega), rfl⟩
          · refine iteDN (by intro z; have := V.int.inj z; omega) ?_
            exact iteF ⟨Dr.refl _, st3, c, by omega, hy4 c (by omega), rfl⟩
        · rintro σ H4 ⟨d4, st4, c, c3, c9, rfl⟩
          refine ⟨_, rfl, _, rfl, c, k, rfl, k2, k4, by omega, c9, fun z0 A0 H5 s5 t0 g0 => ?_⟩
          refine ⟨_, rfl, _, rfl, c, k, rfl, k2, k4, by omega, c9, fun z1 A1 H6 s6 t1 g1 => ?_⟩
          exact ⟨sz1000 (by show 2 ≤ 100000; decide), fun z hz => two_done q hz (d2.trans (d3.trans (d4.trans (Dr.same (s5.trans s6))))) (st4.same (s5.trans s6)) (t0.keep (TX.same s6)) t1 g0 g1⟩
/-! ### _law_closed -/
theorem FnOk.ex {α : Sort _} {P : Program} {w : World} {K : PySem.W.Frag} {mg : Str → Option Value} {base : Heap} {CX : CXT} {k : Nat} {f : Addr} {fd : FuncData} {ps : List Str} {sp : α → Sp} (F : ∀ x, FnOk P w K mg base CX k f fd ps (sp x)) :
    FnOk P w K mg base CX k f fd ps (fun vs H Q E => ∃ x, sp x vs H Q E) :=
  ⟨fun vs H Q E ⟨x, h⟩ => (F x).len vs H Q E h, fun A outer s H args us vs Q E hr he hb hv ⟨x, hs⟩ => (F x).run A outer s H args us vs Q E hr he hb hv hs⟩
def spCloseX : Sp := fun vs H Q E => ∃ (x : (Bool → AutT) × MchT × Nat × Nat), spClose x.1 x.2.1 x.2.2.1 x.2.2.2 vs H Q E
theorem scClosed : FnScope ["_law_machine_here", "_law_left", "_law_right"] ["_law_machine_here", "_law_left", "_law_right"] (defScope (top 29)) := ⟨rfl, rfl, rfl, by decide +kernel, rfl, by decide +kernel, by decide +kernel⟩
theorem ok_closed {f fC : Addr} {fd fdC : FuncData} (F : FnP K "_law_closed" "_law_closed" (top 29) f fd) (FC : FnP K "close" "close" (top 14) fC fdC) (gC : mg "close" = some (.ref fC)) (GC : FnOk P w K mg base CX0 6 fC fdC ["machine", "left", "right"] spCloseX) :
    FnOk P w K mg base CX0 7 f fd ["_law_machine_here", "_law_left", "_law_right"] spCloseX := by
  have bC : Binds K fdC ["machine", "left", "right"] [] := FC.bindsN fun _ _ _ _ _ _ us hl => match us, hl with | [_, _, _], _ => rfl
  refine F.ok scClosed (fun vs H Q E h => ?_) (fun cdv A' outer s H vs Q E' hr h => ?_)
  · obtain ⟨x, mach, l, r, rfl, _⟩ := h
    rfl
  · obtain ⟨x, mach, l, r, rfl, h⟩ := h
    refine ⟨_, pss_one (ps_try_thru0 (pss_one (ps_ret (pe_call GC hr (by rfl) gC FC.kp bC .nil pass0 (pa_cons (pv 0) (pa_cons (pv 1) (pa_cons (pv 2) pa_nil))))))), ?_⟩
    exact ⟨_, rfl, _, rfl, _, rfl, x, mach, l, r, rfl, h⟩
end
end Tac
namespace Tac
open PySem PySem.Spec PyProof.Rows L2 TacR
section
variable {P : Program} {w : World} {K : PySem.W.Frag} {mg : Str → Option Value} {base : Heap}
variable {ns k : Nat}
/-! ### configurations as the law has them -/
def Nl (H H' : Hp) : Prop := ∀ z o, H z = some o → (∀ xs, o ≠ .lst xs) → H' z = some o
theorem Nl.refl (H : Hp) : Nl H H := fun _ _ h _ => h
theorem Nl.trans {H H1 H2 : Hp} (a : Nl H H1) (b : Nl H1 H2) : Nl H H2 := fun z o h n => b z o (a z o h n) n
theorem Nl.same {H H' : Hp} (s : Same H H') : Nl H H' := fun z o h _ => s z o h
theorem Nl.dr {H H' : Hp} (d : Dr H H') : Nl H H' := fun z o h n => d.keep z o h fun _ _ _ _ e => n _ e
theorem Nl.mut {H : Hp} {D : Addr} {xs : List V} {o : HO} (h : H D = some (.lst xs)) : Nl H (upd H D o) := fun z u hz n => by
  rw [upd_ne (ne_of hz h (n xs))]
  exact hz
structure Tape (H : Hp) (d : Addr) (c : Int → Int) (n : Nat) (kvs : List (Key × V)) : Prop where
  at_ : H d = some (.dK kvs)
  keys : ∀ kv ∈ kvs, ∃ t : Int, kv.1 = Sum.inl t ∧ -(n : Int) ≤ t ∧ t ≤ n
  non : ∀ t : Int, valV kvs (Sum.inl t : Key) = none → c t = 0
  som : ∀ (t : Int) v, valV kvs (Sum.inl t : Key) = some v → v = .int (c t)
  len : kvs.length ≤ n
theorem Tape.keep {H H' : Hp} {d : Addr} {c : Int → Int} {n : Nat} {kvs : List (Key × V)} (l : Nl H H') (T : Tape H d c n kvs) : Tape H' d c n kvs := ⟨l _ _ T.at_ (fun _ e => nomatch e), T.keys, T.non, T.som, T.len⟩
theorem Tape.mono {H : Hp} {d : Addr} {c : Int → Int} {n n' : Nat} {kvs : List (Key × V)} (T : Tape H d c n kvs) (h : n ≤ n') : Tape H d c n' kvs :=
  ⟨T.at_, fun kv hk => by
    obtain ⟨t, e, h1, h2⟩ := T.keys kv hk
    exact ⟨t, e, by omega, by omega⟩, T.non, T.som, Nat.le_trans T.len h⟩
/-- d.get(t, 0) -/
theorem Tape.get {H : Hp} {d : Addr} {c : Int → Int} {n : Nat} {kvs : List (Key × V)} (T : Tape H d c n kvs) (t : Int) : ∃ o, DGet H d (.int t) o ∧ o.getD (.int 0) = .int (c t) := by
  refine ⟨valV kvs (Sum.inl t : Key), DGet.k (k := Sum.inl t) T.at_, ?_⟩
  cases e : valV kvs (Sum.inl t : Key) with
  | none => rw [T.non t e]; rfl
  | some v => rw [T.som t v e]; rfl
theorem putK_mem {kvs : List (Key × V)} {ky : Key} {v : V} : ∀ kv ∈ putK kvs ky v, kv.1 = ky ∨ ∃ kv' ∈ kvs, kv'.1 = kv.1 := fun kv h => by
  unfold putK at h
  split at h
  · obtain ⟨kv', h1, h2⟩ := List.mem_map.mp h
    refine .inr ⟨kv', h1, ?_⟩
    rw [← h2]
    split <;> rfl
  · rcases List.mem_append.mp h with q | q
    · exact .inr ⟨kv, q, rfl⟩
    · rw [List.mem_singleton.mp q]
      exact .inl rfl
/-- d[p] = w -/
def wr (c : Int → Int) (p w : Int) : Int → Int := fun x => if x = p then w else c x
theorem Tape.put {H : Hp} {d : Addr} {c : Int → Int} {n : Nat} {kvs : List (Key × V)} (T : Tape H d c n kvs) {p w : Int} (h1 : -(n : Int) - 1 ≤ p) (h2 : p ≤ n + 1) : Tape (upd H d (.dK (putK kvs (Sum.inl p) (.int w)))) d (wr c p w) (n + 1) (putK kvs (Sum.inl p) (.int w)) := by
  refine ⟨upd_same, fun kv hk => ?_, fun t e => ?_, fun t v e => ?_, Nat.le_trans (putK_le ..) (Nat.succ_le_succ T.len)⟩
  · rcases putK_mem kv hk with q | ⟨kv', q1, q2⟩
    · exact ⟨p, q, by omega, by omega⟩
    · obtain ⟨t, e, h3, h4⟩ := T.keys kv' q1
      exact ⟨t, by rw [← q2]; exact e, by omega, by omega⟩
  · rw [valV_put] at e
    split at e
    · cases e
    · rename_i ne
      show (if t = p then w else c t) = 0
      rw [if_neg (fun q => ne (by rw [q]))]
      exact T.non t e
  · rw [valV_put] at e
    show v = .int (if t = p then w else c t)
    split at e
    · rename_i eq
      rw [if_pos (Sum.inl.inj eq)]
      exact (Option.some.inj e).symm
    · rename_i ne
      rw [if_neg (fun q => ne (by rw [q]))]
      exact T.som t v e
def Conf (H : Hp) (z : Addr) (s p : Int) (c : Int → Int) (n : Nat) : Prop := ∃ d kvs, H z = some (.tup [.int s, .int p, .ref d]) ∧ Tape H d c n kvs ∧ -(n : Int) ≤ p ∧ p ≤ n
theorem Conf.keep {H H' : Hp} {z : Addr} {s p : Int} {c : Int → Int} {n : Nat} (l : Nl H H') (h : Conf H z s p c n) : Conf H' z s p c n := by
  obtain ⟨d, kvs, h1, h2, h3⟩ := h
  exact ⟨d, kvs, l _ _ h1 (fun _ e => nomatch e), h2.keep l, h3⟩
theorem Conf.mono {H : Hp} {z : Addr} {s p : Int} {c : Int → Int} {n n' : Nat} (h : Conf H z s p c n) (l : n ≤ n') : Conf H z s p c n' := by
  obtain ⟨d, kvs, h1, h2, h3, h4⟩ := h
  exact ⟨d, kvs, h1, h2.mono l, by omega, by omega⟩
/-! ### _law_after -/
def spAfter : Sp := fun vs H Q _ => ∃ (mach z : Addr) (m : MchT) (ns k : Nat) (s p : Int) (c : Int → Int) (n : Nat), vs = [.ref mach, .ref z] ∧ TM H mach m ∧ Mch m ns k ∧ Conf H z s p c n ∧ n ≤ 1000 ∧ Lt ns s ∧ (∀ x, Lt k (c x)) ∧
  ∀ (z' : Addr) H', Same H H' → Conf H' z' (rl m s (c p)).2.2 (p + (rl m s (c p)).2.1) (wr c p (rl m s (c p)).1) (n + 1) → Q (.ref z') H'
theorem scAfter : FnScope ["_law_machine_here", "_law_now", "_law_cells", "_law_rule"] ["_law_machine_here", "_law_now"] (defScope (top 23)) := ⟨rfl, rfl, rfl, by decide +kernel, rfl, by decide +kernel, by decide +kernel⟩
theorem ok_after {f : Addr} {fd : FuncData} (F : FnP K "_law_after" "_law_after" (top 23) f fd) (G : Gx mg) : FnOk P w K mg base CX0 1 f fd ["_law_machine_here", "_law_now"] spAfter := by
  refine F.ok scAfter (fun vs H Q E h => ?_) (fun cdv A' outer s H vs Q E' hr h => ?_)
  · obtain ⟨mach, z, m, ns, k, s, p, c, n, rfl, _⟩ := h
    rfl
  · obtain ⟨mach, z, m, ns, k, st, p, c, n, rfl, hm, hM, ⟨d, kvs, hz, T, p0, p1⟩, hn, hs, hc, q⟩ := h
    have hu := hu_of hr
    refine ⟨_, pss_cons (ps_set (i := 2) scAfter.nd rfl (Or.inl rfl) (pe_callTy call_dictD (by rfl) G.dict (by decide +kernel) (pa_cons (pe_ix (ixT_K (K := K) rfl) (pv 1) pe_int (fun _ _ => rfl)) pa_nil)))
      (pss_cons (ps_set (i := 3) scAfter.nd rfl (Or.inl rfl) (pe_ix (ixT_K (K := K) rfl) (pe_ix (ixT_K (K := K) rfl) (pv 0) (pe_ix (ixT_K (K := K) rfl) (pv 1) pe_int (fun _ _ => rfl)) (fun _ _ => rfl)) (pe_dget2 hu (pv 2) (pe_ix (ixT_K (K := K) rfl) (pv 1) pe_int (fun _ _ => rfl)) pe_int ⟨rfl, rfl, rfl, rfl⟩) (fun _ _ => rfl)))
      (pss_cons (ps_dput hu (pv 2) (pe_ix (ixT_K (K := K) rfl) (pv 1) pe_int (fun _ _ => rfl)) (pe_ix (ixT_K (K := K) rfl) (pv 3) pe_int (fun _ _ => rfl)) rfl)
      (pss_one (ps_ret (pe_tup (pa_cons (pe_ix (ixT_K (K := K) rfl) (pv 3) pe_int (fun _ _ => rfl)) (pa_cons (pe_op op_add (pe_ix (ixT_K (K := K) rfl) (pv 1) pe_int (fun _ _ => rfl)) (pe_ix (ixT_K (K := K) rfl) (pv 3) pe_int (fun _ _ => rfl))) (pa_cons (pv 2) pa_nil)))))))), ?_⟩
    rw [show L2.start ["_law_machine_here", "_law_now", "_law_cells", "_law_rule"] [V.ref mach, V.ref z] = [some (V.ref mach), some (V.ref z), none, none] from rfl]
    refine ⟨_, rfl, z, _, _, _, rfl, rfl, SqT.of hz, rfl, d, kvs, rfl, .inl T.at_, fun D hD => ?_⟩
    have s1 : Same H (upd H D (.dK kvs)) := Same.new hD
    have T1 : Tape (upd H D (.dK kvs)) D c n kvs := ⟨upd_same, T.keys, T.non, T.som, T.len⟩
    have hz1 := s1 _ _ hz
    simp only [List.set_cons_zero, List.set_cons_succ]
    obtain ⟨b, xs, c2, ys, g1, g2, g3, g4, g5⟩ := (hm.keep (TX.same s1)).at hM hs (hc p)
    generalize hrule : rl m st (c p) = rule at g5 q
    obtain ⟨wr', mv, fo⟩ := rule
    have g5 : upd H D (.dK kvs) c2 = some (.tup [.int wr', .int mv, .int fo]) := g5
    obtain ⟨o, o1, o2⟩ := T1.get p
    refine ⟨_, rfl, _, rfl, z, _, _, _, rfl, rfl, SqT.of hz1, rfl, mach, xs, _, _, rfl, rfl, SqT.of g1, g2, _, rfl, D, rfl, isD_k T1.at_, _, rfl, z, _, _, _, rfl, rfl, SqT.of hz1, rfl, o, o1, ?_⟩
    rw [o2]
    refine ⟨b, ys, _, _, rfl, rfl, SqT.of g3, g4, ?_⟩
    simp only [List.set_cons_zero, List.set_cons_succ]
    -- cells[now[1]] = rule[0]
    refine ⟨_, rfl, c2, _, _, _, rfl, rfl, SqT.of g5, rfl, _, rfl, _, rfl, z, _, _, _, rfl, rfl, SqT.of hz1, rfl, D, _, rfl, DPut.k (k := Sum.inl p) T1.at_ (szlt (by have := T.len; omega)), ?_⟩
    have T2' := T1.put (p := p) (w := wr') (by omega) (by omega)
    have tx : TX (upd H D (.dK kvs)) (upd (upd H D (.dK kvs)) D (.dK (putK kvs (Sum.inl p) (.int wr')))) := TX.mut T1.at_ (by intro xs z; cases z)
    have s2 : Same H (upd (upd H D (.dK kvs)) D (.dK (putK kvs (Sum.inl p) (.int wr')))) := Same.mut s1 hD
    have g6 := tx _ _ g5
    have hz2 := tx _ _ hz1
    have hmv : mv = 1 ∨ mv = -1 := by
      have := (hM.rlR hs (hc p)).2.1
      rw [hrule] at this
      exact this
    refine ⟨_, rfl, c2, _, _, _, rfl, rfl, SqT.of g6, rfl, _, rfl, z, _, _, _, rfl, rfl, SqT.of hz2, rfl, _, rfl, c2, _, _, _, rfl, rfl, SqT.of g6, rfl, _, _, rfl, rfl, _, rfl, sz1000 (by show 3 ≤ 100000; decide), fun z' hz' => ?_⟩
    have s3 := Same.new (o := .tup [.int fo, .int (p + mv), .ref D]) hz'
    refine q z' _ (s2.trans s3) ⟨D, _, upd_same, T2'.keep (Nl.same s3), ?_, ?_⟩
    · show -(((n + 1 : Nat) : Int)) ≤ p + mv
      omega
    · show p + mv ≤ ((n + 1 : Nat) : Int)
      omega
/-! ### _law_history -/
def Bels (H : Hp) (z : Addr) (ns k : Nat) (A : Bool → AutT) (E : Bool → List Ed) (M : List El) (n : Nat) : Prop := ∃ (s p : Int) (c : Int → Int) (lo hi : Int), Conf H z s p c n ∧ Lt ns s ∧ (∀ x, Lt k (c x)) ∧ Fits c lo hi ∧ Bel A E M s p c lo hi
theorem Bels.keep {H H' : Hp} {z : Addr} {A : Bool → AutT} {E : Bool → List Ed} {M : List El} {n : Nat} (l : Nl H H') (h : Bels H z ns k A E M n) : Bels H' z ns k A E M n := by
  obtain ⟨s, p, c, lo, hi, h1, h2⟩ := h
  exact ⟨s, p, c, lo, hi, h1.keep l, h2⟩
theorem Bels.mono {H : Hp} {z : Addr} {A : Bool → AutT} {E : Bool → List Ed} {M : List El} {n n' : Nat} (h : Bels H z ns k A E M n) (l : n ≤ n') : Bels H z ns k A E M n' := by
  obtain ⟨s, p, c, lo, hi, h1, h2⟩ := h
  exact ⟨s, p, c, lo, hi, h1.mono l, h2⟩
theorem fits_wr {c : Int → Int} {p w lo hi : Int} (f : Fits c lo hi) : Fits (wr c p w) (min lo p) (max hi p) := by
  refine ⟨fun x hx => ?_, fun x hx => ?_⟩
  · show (if x = p then w else c x) = 0
    rw [if_neg (by omega)]
    exact f.1 x (by omega)
  · show (if x = p then w else c x) = 0
    rw [if_neg (by omega)]
    exact f.2 x (by omega)
theorem wr_in {c : Int → Int} {p w : Int} (hc : ∀ x, Lt k (c x)) (hw : Lt k w) : ∀ x, Lt k (wr c p w x) := fun x => by
  show Lt k (if x = p then w else c x)
  split
  · exact hw
  · exact hc x
theorem fits_of {H : Hp} {d : Addr} {c : Int → Int} {n : Nat} {kvs : List (Key × V)} (T : Tape H d c n kvs) : Fits c (-(n : Int)) n := by
  have h : ∀ x, (x < -(n : Int) ∨ (n : Int) < x) → c x = 0 := fun x hx => by
    refine T.non x ?_
    cases e : valV kvs (Sum.inl x : Key) with
    | none => rfl
    | some v =>
      obtain ⟨kv, hk, hk2⟩ := List.mem_map.mp (valV_in e)
      obtain ⟨t, e1, h1, h2⟩ := T.keys kv hk
      rw [hk2] at e1
      have := Sum.inl.inj e1
      omega
  exact ⟨fun x hx => h x (.inl hx), fun x hx => h x (.inr hx)⟩
def spHist : Sp := fun vs H Q _ => ∃ (mach : Addr) (n : Nat) (m : MchT) (ns k : Nat) (A : Bool → AutT) (E : Bool → List Ed) (M : List El), vs = [.ref mach, .int n] ∧ TM H mach m ∧ Right A m ns k E M ∧ n ≤ 300 ∧
  ∀ (z : Addr) (zs : List Addr) H', Same H H' → H' z = some (.lst (zs.map V.ref)) → zs.length = n + 1 → (∀ y ∈ zs, Bels H' y ns k A E M n) → Q (.ref z) H'
abbrev nHist : List Str := ["_law_machine_here", "_law_count", "_law_found", "_law_k", "_law_now"]
theorem scHist : FnScope nHist ["_law_machine_here", "_law_count"] (defScope (top 24)) := ⟨rfl, rfl, rfl, by decide +kernel, rfl, by decide +kernel, by decide +kernel⟩
theorem ok_hist {f fA : Addr} {fd fdA : FuncData} (F : FnP K "_law_history" "_law_history" (top 24) f fd) (G : Gx mg) (FA : FnP K "_law_after" "_law_after" (top 23) fA fdA) (gA : mg "_law_after" = some (.ref fA)) : FnOk P w K mg base CX0 2 f fd ["_law_machine_here", "_law_count"] spHist := by
  have GA : FnOk P w K mg base CX0 1 fA fdA ["_law_machine_here", "_law_now"] spAfter := ok_after FA G
  have bA : Binds K fdA ["_law_machine_here", "_law_now"] [] := FA.bindsN fun _ _ _ _ _ _ us hl => match us, hl with | [_, _], _ => rfl
  refine F.ok scHist (fun vs H Q E h => ?_) (fun cdv A' outer s H vs Q E' hr h => ?_)
  · obtain ⟨mach, n, m, ns, k, A, E, M, rfl, _⟩ := h
    rfl
  · obtain ⟨mach, n, m, ns, k, A, E, M, rfl, hm, R, hn, q⟩ := h
    have hM := R.mch
    refine ⟨_, pss_cons (ps_set (i := 2) scHist.nd rfl (Or.inl rfl) (pe_lst (pa_cons (pe_tup (pa_cons pe_int (pa_cons pe_int (pa_cons pe_dnewK pa_nil)))) pa_nil)))
      (pss_cons (ps_for PassesOwn.never rfl (pi_range1 (by rfl) G.range (pa_cons (pv 1) pa_nil)) (pg_name (i := 3) scHist.nd rfl (Or.inl rfl))
        (pss_cons (ps_set (i := 4) scHist.nd rfl (Or.inl rfl) (pe_ix (ixL_K (K := K) rfl) (pv 2) (pe_op op_sub (pe_callB (len_K (K := K) rfl) (by rfl) G.len PySem.boot_len (pa_cons (pv 2) pa_nil)) pe_int) (fun _ _ => rfl)))
        (pss_cons (ps_if (pt_cmpR op_lt (pe_ix (ixT_K (K := K) rfl) (pv 4) pe_int (fun _ _ => rfl)) pe_int (nomark _)) pss_never pss_nil)
        (pss_one (ps_expr (pe_bm PySem.F.plainAttrs_list PySem.F.slot_list_append PySem.F.type_list_append mt_append (pv 2) (pa_cons (pe_call GA hr (by rfl) gA FA.kp bA .nil pass0 (pa_cons (pv 0) (pa_cons (pv 4) pa_nil))) pa_nil)))))))
      (pss_one (ps_ret (pv 2)))), ?_⟩
    rw [show L2.start nHist [V.ref mach, V.int n] = [some (V.ref mach), some (V.int n), none, none, none] from rfl]
    refine fun d hd => ⟨sz1000 (by show 3 ≤ 100000; decide), fun z0 hz0 => ⟨sz1000 (by show 1 ≤ 100000; decide), fun D hD => ?_⟩⟩
    have s1 : Same H (upd H d (.dK [])) := Same.new hd
    have s2 : Same (upd H d (.dK [])) (upd (upd H d (.dK [])) z0 (.tup [.int 0, .int 0, .ref d])) := Same.new hz0
    have s3 : Same (upd (upd H d (.dK [])) z0 (.tup [.int 0, .int 0, .ref d])) (upd (upd (upd H d (.dK [])) z0 (.tup [.int 0, .int 0, .ref d])) D (.lst [.ref z0])) := Same.new hD
    have hD0 : H D = none := (s1.trans s2).free hD
    simp only [List.set_cons_zero, List.set_cons_succ]
    have first : Bels (upd (upd (upd H d (.dK [])) z0 (.tup [.int 0, .int 0, .ref d])) D (.lst [.ref z0])) z0 ns k A E M 0 := by
      have hk0 : 0 < k := by have := hM.kLo; omega
      refine ⟨0, 0, fun _ => 0, 0, 0, ⟨d, [], s3 _ _ upd_same, ⟨s3 _ _ (s2 _ _ upd_same), (fun _ h => nomatch h), fun _ _ => rfl, (fun _ _ e => nomatch e), Nat.le_refl _⟩, Int.le_refl _, Int.le_refl _⟩, ⟨Int.le_refl _, by have := hM.sPos; omega⟩, fun _ => ⟨Int.le_refl _, show (0 : Int) < (k : Int) by omega⟩, ⟨fun _ _ => rfl, fun _ _ => rfl⟩, Bel.blank R fun _ => rfl⟩
    refine ⟨_, rfl, (n : Int), rfl, by omega, by omega, for_range (fun i σ H' => Same H H' ∧ (∃ zs : List Addr, H' D = some (.lst (zs.map V.ref)) ∧ zs.length = i + 1 ∧ ∀ y ∈ zs, Bels H' y ns k A E M i) ∧ ∃ u v, σ = [some (.ref mach), some (.int n), some (.ref D), u, v])
      ⟨s1.trans (s2.trans s3), ⟨[z0], upd_same, rfl, fun y hy => by rw [List.mem_singleton.mp hy]; exact first⟩, none, none, rfl⟩ ?_ ?_⟩
    · rintro i σ H1 hi ⟨s4, ⟨zs, h1, h2, h3⟩, u, v, rfl⟩
      have hi : i < n := by omega
      simp only [List.set_cons_zero, List.set_cons_succ]
      have hlast : i < zs.length := by omega
      have hmem : zs[i] ∈ zs := List.getElem_mem hlast
      have hix : atI (zs.map V.ref) (((zs.map V.ref).length : Int) - 1) = some (.ref zs[i]) := by
        rw [List.length_map, h2]
        refine atI_lt (by omega) ?_
        rw [List.getElem?_map, show (((i + 1 : Nat) : Int) - 1).toNat = i by omega, List.getElem?_eq_getElem hlast]
        rfl
      refine ⟨_, rfl, _, rfl, D, _, rfl, .inl (SqL.of h1), _, _, rfl, rfl, D, _, _, _, rfl, rfl, SqL.of h1, hix, ?_⟩
      obtain ⟨st, p, c, lo, hi', C1, C2, C3, C4, C5⟩ := h3 _ hmem
      generalize zs[i] = y at C1
      simp only [List.set_cons_zero, List.set_cons_succ]
      obtain ⟨d', kvs, y1, T, p0, p1⟩ := id C1
      refine ⟨_, rfl, y, _, _, _, rfl, rfl, SqT.of y1, rfl, _, _, rfl, rfl, _, rfl, iteDN (by have := C2.1; omega) ?_⟩
      refine ⟨_, rfl, .inl ⟨rfl, _, SqL.of h1⟩, _, rfl, _, rfl, mach, y, m, ns, k, st, p, c, i, rfl, hm.keep (TX.same s4), hM, C1, by omega, C2, C3, fun z' H2 s5 C' => ?_⟩
      have h1' := s5 _ _ h1
      refine ⟨D, _, _, rfl, rfl, h1', szlt (by rw [List.length_map]; omega), ?_⟩
      rw [refs_snoc]
      have fw := fits_wr (p := p) (w := (rl m st (c p)).1) C4
      obtain ⟨b1, b2⟩ := Bel.step R C4 fw C5 (show wr c p (rl m st (c p)).1 p = _ from if_pos rfl) (fun x hx => if_neg hx)
      have r := hM.rlR C2 (C3 p)
      have nl : Nl H1 (upd H2 D (.lst ((zs ++ [z']).map V.ref))) := (Nl.same s5).trans (Nl.mut h1')
      refine ⟨Same.mut (s4.trans s5) hD0, ⟨zs ++ [z'], upd_same, by rw [List.length_append, h2]; rfl, fun y' hy' => ?_⟩, _, _, rfl⟩
      rcases List.mem_append.mp hy' with g | g
      · exact ((h3 y' g).keep nl).mono (Nat.le_succ _)
      · rw [List.mem_singleton.mp g]
        exact ⟨_, _, _, _, _, C'.keep (Nl.mut h1'), ⟨b1, r.2.2.2⟩, wr_in C3 r.1, fw, b2⟩
    · rintro σ H1 ⟨s4, ⟨zs, h1, h2, h3⟩, u, v, rfl⟩
      rw [show ((n : Int)).toNat = n by omega] at h2 h3
      exact ⟨_, rfl, q D zs H1 s4 h1 h2 h3⟩
end
end Tac
namespace Tac
open PySem PySem.Spec PyProof.Rows L2 TacR
section
variable {P : Program} {w : World} {K : PySem.W.Frag} {mg : Str → Option Value} {base : Heap}
/-! ### _law_configuration -/
def spConf : Sp := fun vs H Q _ => ∃ (z : Addr) (s p : Int) (c : Int → Int) (n : Nat), vs = [.ref z] ∧ Conf H z s p c n ∧ n ≤ 300 ∧
  ∀ (t y : Addr) (lo hi : Int) H', Same H H' → H' t = some (.tup [.int s, .int p, .int lo, .ref y]) → TN H' y (cut c lo hi) → lo ≤ hi → Fits c lo (hi - 1) → -400 ≤ lo → hi ≤ 400 → Q (.ref t) H'
abbrev nConf : List Str := ["_law_now", "_law_places", "_law_low", "_law_cells", "_law_place"]
theorem scConf : FnScope nConf ["_law_now"] (defScope (top 28)) := ⟨rfl, rfl, rfl, by decide +kernel, rfl, by decide +kernel, by decide +kernel⟩
/-- what the places are -/
structure Pl (c : Int → Int) (n : Nat) (kvs : List (Key × V)) (ps : List Int) : Prop where
  ne : ∀ t ∈ ps, c t ≠ 0 ∧ -(n : Int) ≤ t ∧ t ≤ n
  all : ∀ kv ∈ kvs, ∀ t : Int, kv.1 = Sum.inl t → c t ≠ 0 → t ∈ ps
theorem ok_conf {f : Addr} {fd : FuncData} (F : FnP K "_law_configuration" "_law_configuration" (top 28) f fd) (G : Gx mg) : FnOk P w K mg base CX0 1 f fd ["_law_now"] spConf := by
  refine F.ok scConf (fun vs H Q E h => ?_) (fun cdv A' outer s H vs Q E' hr h => ?_)
  · obtain ⟨z, s, p, c, n, rfl, _⟩ := h
    rfl
  · obtain ⟨z, st, p, c, n, rfl, ⟨d, kvs, hz, T, p0, p1⟩, hn, q⟩ := h
    have hu := hu_of hr
    refine ⟨_, pss_cons (ps_lock (ps_setLc (i := 1) (own := [("_law_place", 4)]) (g := gName 4) rfl scConf.nd rfl rfl (sw_true rfl rfl rfl (by decide +kernel)) (pi_keys (pe_ix (ixT_K (K := K) rfl) (pv 0) pe_int (fun _ _ => rfl))) (blkOk_by (N := nConf) (sc := defScope (top 28)) (by decide +kernel))
        (fun _ _ _ _ _ => pg_name (i := 4) scConf.nd rfl (Or.inl rfl)) (fun _ _ _ _ _ => pts_one (pt_cmpR op_ne (pe_dget hu (pe_ix (ixT_K (K := K) rfl) (pv 0) pe_int (fun _ _ => rfl)) (pv 4) (fun _ _ => rfl)) pe_int (nomark _))) (fun _ _ _ _ _ => pv 4)))
      (pss_cons (ps_if (pt_cmpR op_eq (pe_callB (len_K (K := K) rfl) (by rfl) G.len PySem.boot_len (pa_cons (pv 1) pa_nil)) pe_int (nomark _))
        (pss_one (ps_ret (pe_tup (pa_cons (pe_ix (ixT_K (K := K) rfl) (pv 0) pe_int (fun _ _ => rfl)) (pa_cons (pe_ix (ixT_K (K := K) rfl) (pv 0) pe_int (fun _ _ => rfl)) (pa_cons pe_int (pa_cons (pe_tup pa_nil) pa_nil))))))) pss_nil)
      (pss_cons (ps_set (i := 2) scConf.nd rfl (Or.inl rfl) (pe_callB (cr_min rfl) (by rfl) G.min (by decide +kernel) (pa_cons (pv 1) pa_nil)))
      (pss_cons (ps_set (i := 3) scConf.nd rfl (Or.inl rfl) (pe_callTy (tuple_K (K := K) rfl) (by rfl) G.tuple (by decide +kernel) (pa_cons (pe_lc (own := [("_law_place", 4)]) (g := gName 4) (tt := tYes) rfl scConf.nd
        (pi_range2 (by rfl) G.range (pa_cons (pv 2) (pa_cons (pe_op op_add (pe_callB (cr_max rfl) (by rfl) G.max (by decide +kernel) (pa_cons (pv 1) pa_nil)) pe_int) pa_nil))) (blkOk_by (N := nConf) (sc := defScope (top 28)) (by decide +kernel))
        (fun _ _ _ _ _ => pg_name (i := 4) scConf.nd rfl (Or.inl rfl)) (fun _ _ _ _ _ => pts_nil) (fun _ _ _ _ _ => pe_dget2 hu (pe_ix (ixT_K (K := K) rfl) (pv 0) pe_int (fun _ _ => rfl)) (pv 4) pe_int ⟨rfl, rfl, rfl, rfl⟩)) pa_nil)))
      (pss_one (ps_ret (pe_tup (pa_cons (pe_ix (ixT_K (K := K) rfl) (pv 0) pe_int (fun _ _ => rfl)) (pa_cons (pe_ix (ixT_K (K := K) rfl) (pv 0) pe_int (fun _ _ => rfl)) (pa_cons (pv 2) (pa_cons (pv 3) pa_nil)))))))))), ?_⟩
    rw [show L2.start nConf [V.ref z] = [some (V.ref z), none, none, none, none] from rfl]
    refine ⟨d, _, T.at_, trivial, fun od => ?_⟩
    have hz1 : upd H d (.frz od (.dK kvs)) z = some (.tup [.int st, .int p, .ref d]) := by
      rw [upd_ne (ne_of hz T.at_ (by intro z; cases z))]
      exact hz
    refine ⟨_, rfl, z, _, _, _, rfl, rfl, SqT.of hz1, rfl, d, od, rfl, .inl ⟨kvs, upd_same, ?_⟩⟩
    refine fun D hD => lc_it walk_keys (fun i H' => Same (upd H d (.frz od (.dK kvs))) H' ∧ ∃ ps : List Int, H' D = some (.lst (ps.map V.int)) ∧ ps.length ≤ i ∧ Pl c n (kvs.take i) ps)
      ⟨Same.new hD, [], upd_same, Nat.le_refl _, ⟨(fun _ h => nomatch h), by rw [List.take_zero]; exact fun _ h => nomatch h⟩⟩ (fun i H' _ pp => pp.1 _ _ upd_same) ?_ ?_
    · rintro i x H1 H2 hi ⟨s1, ps, h1, h2, h3⟩ ⟨rfl, ky, v, hk, rfl⟩
      have hmem : (ky, v) ∈ kvs := List.mem_of_getElem? hk
      obtain ⟨t, e1, t0, t1⟩ := T.keys _ hmem
      have e1 : ky = Sum.inl t := e1
      subst e1
      have hfr := s1 _ _ (show upd H d (.frz od (.dK kvs)) d = _ from upd_same)
      have hz2 := s1 _ _ hz1
      have htk : kvs.take (i + 1) = kvs.take i ++ [(Sum.inl t, v)] := by rw [List.take_add_one, hk]; rfl
      have hval : valV kvs (Sum.inl t : Key) = some (.int (c t)) := by
        cases e : valV kvs (Sum.inl t : Key) with
        | none => exact absurd (List.mem_map.mpr ⟨_, hmem, rfl⟩) (valV_not e)
        | some v' => rw [T.som t v' e]
      have hl := T.len
      refine ⟨rfl, ?_⟩
      refine ⟨_, rfl, z, _, _, _, rfl, rfl, SqT.of hz2, rfl, _, rfl, d, .int (c t), rfl, .inl ⟨kvs, Sum.inl t, .inr ⟨od, hfr⟩, rfl, hval.symm⟩, rfl, _, rfl, ?_⟩
      by_cases hc : c t = 0
      · have : (!decide (V.int (c t) = V.int 0)) = false := by rw [hc]; rfl
        rw [this]
        refine iteF ⟨s1, ps, h1, by omega, ⟨h3.ne, fun kv hkv u hu hcu => ?_⟩⟩
        rw [htk] at hkv
        rcases List.mem_append.mp hkv with g | g
        · exact h3.all kv g u hu hcu
        · rw [List.mem_singleton.mp g] at hu
          have : t = u := Sum.inl.inj hu
          exact absurd (by rw [← this]; exact hc) hcu
      · have : (!decide (V.int (c t) = V.int 0)) = true := by
          rw [decide_eq_false (fun e => hc (V.int.inj e))]
          rfl
        rw [this]
        refine iteT ⟨_, rfl, _, h1, szlt (by rw [List.length_map]; omega), Same.mut s1 hD, ps ++ [t], by rw [upd_same, List.map_append]; rfl, by rw [List.length_append]; show ps.length + 1 ≤ i + 1; omega, ⟨fun u hu => ?_, fun kv hkv u hu hcu => ?_⟩⟩
        · rcases List.mem_append.mp hu with g | g
          · exact h3.ne u g
          · rw [List.mem_singleton.mp g]
            exact ⟨hc, t0, t1⟩
        · rw [htk] at hkv
          rcases List.mem_append.mp hkv with g | g
          · exact List.mem_append_left _ (h3.all kv g u hu hcu)
          · rw [List.mem_singleton.mp g] at hu
            have : t = u := Sum.inl.inj hu
            rw [← this]
            exact List.mem_append_right _ (List.mem_singleton.mpr rfl)
    · rintro H1 ⟨s1, ps, h1, h2, h3⟩
      rw [List.take_length] at h3
      refine ⟨s1 _ _ upd_same, ?_⟩
      have nD : D ≠ d := fun e => by
        rw [e, upd_same] at hD
        cases hD
      have s2 : Same H (upd H1 d (.dK kvs)) := fun y o ho => by
        by_cases e : y = d
        · rw [e, upd_same]
          rw [e, T.at_] at ho
          exact ho
        · rw [upd_ne e]
          exact s1 y o (by rw [upd_ne e]; exact ho)
      have hD2 : upd H1 d (.dK kvs) D = some (.lst (ps.map V.int)) := by rw [upd_ne nD]; exact h1
      generalize upd H1 d (.dK kvs) = H2 at s2 hD2
      clear s1 h1 hD hz1
      have hz2 := s2 _ _ hz
      have T2' := T.keep (Nl.same s2)
      have out : ∀ x, x ∉ ps → c x = 0 := fun x hx => by
        by_cases e : c x = 0
        · exact e
        · refine absurd ?_ hx
          cases ev : valV kvs (Sum.inl x : Key) with
          | none => exact absurd (T.non x ev) e
          | some v =>
            obtain ⟨kv, hk, hk2⟩ := List.mem_map.mp (valV_in ev)
            exact h3.all kv hk x hk2 e
      simp only [List.set_cons_zero, List.set_cons_succ]
      refine ⟨_, rfl, D, _, rfl, .inl (SqL.of hD2), rfl, _, rfl, ?_⟩
      rw [List.length_map]
      by_cases hps : ps = []
      · refine iteD (by rw [hps]; rfl) ?_
        refine ⟨_, rfl, z, _, _, _, rfl, rfl, SqT.of hz2, rfl, _, rfl, z, _, _, _, rfl, rfl, SqT.of hz2, rfl, Nat.zero_le _, fun y hy => ⟨sz1000 (by show 4 ≤ 100000; decide), fun t ht => ?_⟩⟩
        have s3 : Same H2 (upd H2 y (.tup [])) := Same.new hy
        have s4 : Same (upd H2 y (.tup [])) (upd (upd H2 y (.tup [])) t (.tup [.int st, .int p, .int 0, .ref y])) := Same.new ht
        have c0 : ∀ x, c x = 0 := fun x => out x (by rw [hps]; exact fun h => nomatch h)
        refine q t y 0 0 _ (s2.trans (s3.trans s4)) upd_same ?_ (Int.le_refl _) ⟨fun x _ => c0 x, fun x _ => c0 x⟩ (by decide) (by decide)
        rw [cut_nil c (Int.le_refl _)]
        exact s4 _ _ upd_same
      · have hpos : 0 < ps.length := List.length_pos_iff.mpr hps
        refine iteDN (by intro z; have := V.int.inj z; omega) ?_
        refine ⟨_, rfl, D, ps, rfl, SqL.of hD2, hpos, fun lo lo1 lo2 => ?_⟩
        simp only [List.set_cons_zero, List.set_cons_succ]
        obtain ⟨b1, b2, b3⟩ := h3.ne lo lo1
        refine ⟨_, rfl, _, rfl, D, ps, rfl, SqL.of hD2, hpos, fun hi hi1 hi2 => ⟨_, _, rfl, rfl, ?_⟩⟩
        obtain ⟨b4, b5, b6⟩ := h3.ne hi hi1
        have hle : lo ≤ hi := lo2 hi hi1
        refine ⟨lo, hi + 1, rfl, ⟨by omega, by omega, by omega, by omega⟩, fun D2 hD20 => lc_range (lo := lo) (n := (hi + 1 - lo).toNat) (fun i H' => Same H2 H' ∧ H' D2 = some (.lst (((List.range i).map fun (j : Nat) => c (lo + (j : Int))).map V.int))) ⟨Same.new hD20, upd_same⟩ ?_ ?_⟩
        · rintro i H3 hi3 ⟨s3, g3⟩
          obtain ⟨o, o1, o2⟩ := (T2'.keep (Nl.same s3)).get (lo + (i : Int))
          refine ⟨rfl, yesT ?_⟩
          refine ⟨_, rfl, z, _, _, _, rfl, rfl, SqT.of (s3 _ _ hz2), rfl, d, rfl, isD_k (T2'.keep (Nl.same s3)).at_, _, rfl, o, o1, ?_⟩
          rw [o2]
          refine ⟨_, g3, szlt (by rw [List.length_map, List.length_map, List.length_range]; omega), Same.mut s3 hD20, ?_⟩
          rw [upd_same, List.range_succ, List.map_append, List.map_append]
          rfl
        · rintro H3 ⟨s3, g3⟩
          refine ⟨D2, _, rfl, .inl ⟨SqL.of g3, fun y hy => ?_⟩⟩
          have s4 : Same H3 (upd H3 y (.tup (((List.range (hi + 1 - lo).toNat).map fun (j : Nat) => c (lo + (j : Int))).map V.int))) := Same.new hy
          have hy2 : TN (upd H3 y (.tup (((List.range (hi + 1 - lo).toNat).map fun (j : Nat) => c (lo + (j : Int))).map V.int))) y (cut c lo (hi + 1)) := upd_same
          generalize upd H3 y (.tup (((List.range (hi + 1 - lo).toNat).map fun (j : Nat) => c (lo + (j : Int))).map V.int)) = H4 at s4 hy2
          simp only [List.set_cons_zero, List.set_cons_succ]
          have hz4 := s4 _ _ (s3 _ _ hz2)
          refine ⟨_, rfl, z, _, _, _, rfl, rfl, SqT.of hz4, rfl, _, rfl, z, _, _, _, rfl, rfl, SqT.of hz4, rfl, _, rfl, _, rfl, sz1000 (by show 4 ≤ 100000; decide), fun t ht => ?_⟩
          have s5 : Same H4 (upd H4 t (.tup [.int st, .int p, .int lo, .ref y])) := Same.new ht
          refine q t y lo (hi + 1) _ (s2.trans (s3.trans (s4.trans s5))) upd_same (TN.keep (TX.same s5) hy2) (by omega) ⟨fun x hx => out x fun h => ?_, fun x hx => out x fun h => ?_⟩ (by omega) (by omega)
          · have := lo2 x h
            omega
          · have := hi2 x h
            omega
end
end Tac
namespace Tac
open PySem PySem.Spec PyProof.Rows L2 TacR
section
variable {P : Program} {w : World} {K : PySem.W.Frag} {mg : Str → Option Value} {base : Heap}
/-! ### the law -/
def spLaw (K : PySem.W.Frag) : Sp := fun vs H Q _ => ∃ (a : Addr) (ns : List Int), vs = [.ref a] ∧ SqL K H a (ns.map V.int) ∧ ∀ H', Q (.bl true) H'
abbrev nLaw : List Str := ["_law_script", "_law_stream_here", "_law_machine_here", "_law_sides_here", "_law_value", "_law_history_here", "_law_k", "_law_cells", "_law_place", "_law_now", "_law_after_here"]
theorem scLaw : FnScope nLaw ["_law_script"] (defScope (top 30)) := ⟨rfl, rfl, rfl, by decide +kernel, rfl, by decide +kernel, by decide +kernel⟩
theorem ok_law {f fS fD fM fI fC fR fH fA fX fG : Addr} {fd fdS fdD fdM fdI fdC fdR fdH fdA fdX fdG : FuncData} (F : FnP K "law" "law" (top 30) f fd) (G : Gx mg)
    (FS : FnP K "_law_stream" "_law_stream" (top 18) fS fdS) (gS : mg "_law_stream" = some (.ref fS))
    (FD : FnP K "_law_draw" "_law_draw" (top 19) fD fdD) (gD : mg "_law_draw" = some (.ref fD))
    (FM : FnP K "_law_machine" "_law_machine" (top 22) fM fdM) (gM : mg "_law_machine" = some (.ref fM)) (GM : FnOk P w K mg base CX0 3 fM fdM ["_law_stream_here"] spGrown)
    (FI : FnP K "_law_sides" "_law_sides" (top 27) fI fdI) (gI : mg "_law_sides" = some (.ref fI)) (GI : FnOk P w K mg base CX0 3 fI fdI ["_law_stream_here", "_law_machine_here"] spSides)
    (FC : FnP K "_law_closed" "_law_closed" (top 29) fC fdC) (gC : mg "_law_closed" = some (.ref fC)) (GC : FnOk P w K mg base CX0 7 fC fdC ["_law_machine_here", "_law_left", "_law_right"] spCloseX)
    (FR : FnP K "is_right" "is_right" (top 12) fR fdR) (gR : mg "is_right" = some (.ref fR)) (GR' : FnOk P w K mg base CX0 4 fR fdR ["machine", "value"] spRight)
    (FH : FnP K "_law_history" "_law_history" (top 24) fH fdH) (gH : mg "_law_history" = some (.ref fH)) (GH : FnOk P w K mg base CX0 2 fH fdH ["_law_machine_here", "_law_count"] spHist)
    (FA : FnP K "_law_after" "_law_after" (top 23) fA fdA) (gA : mg "_law_after" = some (.ref fA))
    (FX : FnP K "reads" "reads" (top 16) fX fdX) (gX : mg "reads" = some (.ref fX)) (GX : FnOk P w K mg base CX0 2 fX fdX ["machine", "closed_set", "configuration"] spReads)
    (FG : FnP K "_law_configuration" "_law_configuration" (top 28) fG fdG) (gG : mg "_law_configuration" = some (.ref fG)) : FnOk P w K mg base CX0 8 f fd ["_law_script"] (spLaw K) := by
  have GS : FnOk P w K mg base CX0 1 fS fdS ["_law_script"] (spStream K) := ok_stream FS G
  have GD : FnOk P w K mg base CX0 1 fD fdD ["_law_stream_here", "_law_many"] spDraw := ok_draw FD G
  have GA : FnOk P w K mg base CX0 1 fA fdA ["_law_machine_here", "_law_now"] spAfter := ok_after FA G
  have GG : FnOk P w K mg base CX0 1 fG fdG ["_law_now"] spConf := ok_conf FG G
  have bS : Binds K fdS ["_law_script"] [] := FS.bindsN fun _ _ _ _ _ _ us hl => match us, hl with | [_], _ => rfl
  have bD : Binds K fdD ["_law_stream_here", "_law_many"] [] := FD.bindsN fun _ _ _ _ _ _ us hl => match us, hl with | [_, _], _ => rfl
  have bM : Binds K fdM ["_law_stream_here"] [] := FM.bindsN fun _ _ _ _ _ _ us hl => match us, hl with | [_], _ => rfl
  have bI : Binds K fdI ["_law_stream_here", "_law_machine_here"] [] := FI.bindsN fun _ _ _ _ _ _ us hl => match us, hl with | [_, _], _ => rfl
  have bC : Binds K fdC ["_law_machine_here", "_law_left", "_law_right"] [] := FC.bindsN fun _ _ _ _ _ _ us hl => match us, hl with | [_, _, _], _ => rfl
  have bR : Binds K fdR ["machine", "value"] [] := FR.bindsN fun _ _ _ _ _ _ us hl => match us, hl with | [_, _], _ => rfl
  have bH : Binds K fdH ["_law_machine_here", "_law_count"] [] := FH.bindsN fun _ _ _ _ _ _ us hl => match us, hl with | [_, _], _ => rfl
  have bA : Binds K fdA ["_law_machine_here", "_law_now"] [] := FA.bindsN fun _ _ _ _ _ _ us hl => match us, hl with | [_, _], _ => rfl
  have bX : Binds K fdX ["machine", "closed_set", "configuration"] [] := FX.bindsN fun _ _ _ _ _ _ us hl => match us, hl with | [_, _, _], _ => rfl
  have bG : Binds K fdG ["_law_now"] [] := FG.bindsN fun _ _ _ _ _ _ us hl => match us, hl with | [_], _ => rfl
  refine F.ok scLaw (fun vs H Q E h => ?_) (fun cdv A' outer s H vs Q E' hr h => ?_)
  · obtain ⟨a, ns, rfl, _⟩ := h
    rfl
  · obtain ⟨a0, us, rfl, hscr, q⟩ := h
    have hu := hu_of hr
    have hr4 : Room 4 _ := hr.mono (by decide)
    have hr3 : Room 3 _ := hr.mono (by decide)
    have hr2 : Room 2 _ := hr.mono (by decide)
    have hr1 : Room 1 _ := hr.mono (by decide)
    refine ⟨_, pss_cons (ps_set (i := 1) scLaw.nd rfl (Or.inl rfl) (pe_call GS hr1 (by rfl) gS FS.kp bS .nil pass0 (pa_cons (pv 0) pa_nil)))
      (pss_cons (ps_set (i := 2) scLaw.nd rfl (Or.inl rfl) (pe_call GM hr3 (by rfl) gM FM.kp bM .nil pass0 (pa_cons (pv 1) pa_nil)))
      (pss_cons (ps_set (i := 3) scLaw.nd rfl (Or.inl rfl) (pe_call GI hr3 (by rfl) gI FI.kp bI .nil pass0 (pa_cons (pv 1) (pa_cons (pv 2) pa_nil))))
      (pss_cons (ps_set (i := 4) scLaw.nd rfl (Or.inl rfl) (pe_call GC hr (by rfl) gC FC.kp bC .nil pass0 (pa_cons (pv 2) (pa_cons (pe_ix (ixL_K (K := K) rfl) (pv 3) pe_int (fun _ _ => rfl)) (pa_cons (pe_ix (ixL_K (K := K) rfl) (pv 3) pe_int (fun _ _ => rfl)) pa_nil)))))
      (pss_cons (ps_if (pt_cmp (pc_isN (pv 4))) (pss_one (ps_ret pe_bl)) pss_nil)
      (pss_cons (ps_if (pt_cmpR op_ne (pe_call GR' hr4 (by rfl) gR FR.kp bR .nil pass0 (pa_cons (pv 2) (pa_cons (pv 4) pa_nil))) pe_bl (nomark _)) pss_never pss_nil)
      (pss_cons (ps_set (i := 5) scLaw.nd rfl (Or.inl rfl) (pe_call GH hr2 (by rfl) gH FH.kp bH .nil pass0 (pa_cons (pv 2) (pa_cons pe_int pa_nil))))
      (pss_cons (ps_if (pt_cmpR op_lt (pe_ix (ixT_K (K := K) rfl) (pe_ix (ixL_K (K := K) rfl) (pv 5) (pe_op op_sub (pe_callB (len_K (K := K) rfl) (by rfl) G.len PySem.boot_len (pa_cons (pv 5) pa_nil)) pe_int) (fun _ _ => rfl)) pe_int (fun _ _ => rfl)) pe_int (nomark _)) pss_never pss_nil)
      (pss_cons (ps_for PassesOwn.never rfl (pi_range3 (by rfl) G.range (pa_cons pe_int (pa_cons pe_int (pa_cons pe_int pa_nil)))) (pg_name (i := 6) scLaw.nd rfl (Or.inl rfl))
        (pss_one (ps_if (pt_cmpR op_ne (pe_ix (ixT_K (K := K) rfl) (pe_call GX hr2 (by rfl) gX FX.kp bX .nil pass0 (pa_cons (pv 2) (pa_cons (pv 4) (pa_cons (pe_call GG hr1 (by rfl) gG FG.kp bG .nil pass0 (pa_cons (pe_ix (ixL_K (K := K) rfl) (pv 5) (pv 6) (fun _ _ => rfl)) pa_nil)) pa_nil)))) pe_int (fun _ _ => rfl)) pe_bl (nomark _)) pss_never pss_nil)))
      (pss_cons (ps_for PassesOwn.never rfl (pi_range1 (by rfl) G.range (pa_cons pe_int pa_nil)) (pg_name (i := 6) scLaw.nd rfl (Or.inl rfl))
        (pss_cons (ps_set (i := 7) scLaw.nd rfl (Or.inl rfl) pe_dnewK)
        (pss_cons (ps_for PassesOwn.never rfl (pi_range1 (by rfl) G.range (pa_cons (pe_op op_add pe_int (pe_call GD hr1 (by rfl) gD FD.kp bD .nil pass0 (pa_cons (pv 1) (pa_cons pe_int pa_nil)))) pa_nil)) (pg_name (i := 8) scLaw.nd rfl (Or.inl rfl))
          (pss_one (ps_dput hu (pv 7) (pe_op op_sub (pv 8) pe_int) (pe_call GD hr1 (by rfl) gD FD.kp bD .nil pass0 (pa_cons (pv 1) (pa_cons (pe_callB (len_K (K := K) rfl) (by rfl) G.len PySem.boot_len (pa_cons (pe_ix (ixT_K (K := K) rfl) (pv 2) pe_int (fun _ _ => rfl)) pa_nil)) pa_nil))) rfl)))
        (pss_cons (ps_set (i := 9) scLaw.nd rfl (Or.inl rfl) (pe_tup (pa_cons (pe_call GD hr1 (by rfl) gD FD.kp bD .nil pass0 (pa_cons (pv 1) (pa_cons (pe_callB (len_K (K := K) rfl) (by rfl) G.len PySem.boot_len (pa_cons (pv 2) pa_nil)) pa_nil)))
          (pa_cons (pe_op op_sub (pe_call GD hr1 (by rfl) gD FD.kp bD .nil pass0 (pa_cons (pv 1) (pa_cons pe_int pa_nil))) pe_int) (pa_cons (pv 7) pa_nil)))))
        (pss_one (ps_if (pt_val (pe_ix (ixT_K (K := K) rfl) (pe_call GX hr2 (by rfl) gX FX.kp bX .nil pass0 (pa_cons (pv 2) (pa_cons (pv 4) (pa_cons (pe_call GG hr1 (by rfl) gG FG.kp bG .nil pass0 (pa_cons (pv 9) pa_nil)) pa_nil)))) pe_int (fun _ _ => rfl)))
          (pss_cons (ps_set (i := 10) scLaw.nd rfl (Or.inl rfl) (pe_call GA hr1 (by rfl) gA FA.kp bA .nil pass0 (pa_cons (pv 2) (pa_cons (pv 9) pa_nil))))
          (pss_one (ps_if (PW.pt (pw_or (pt_cmpR op_lt (pe_ix (ixT_K (K := K) rfl) (pv 10) pe_int (fun _ _ => rfl)) pe_int (nomark _)) (pw_or1 (pt_cmpR op_ne (pe_ix (ixT_K (K := K) rfl) (pe_call GX hr2 (by rfl) gX FX.kp bX .nil pass0 (pa_cons (pv 2) (pa_cons (pv 4) (pa_cons (pe_call GG hr1 (by rfl) gG FG.kp bG .nil pass0 (pa_cons (pv 10) pa_nil)) pa_nil)))) pe_int (fun _ _ => rfl)) pe_bl (nomark _))))) pss_never pss_nil)))
          pss_nil))))))
      (pss_one (ps_ret pe_bl))))))))))), ?_⟩
    rw [show L2.start nLaw [V.ref a0] = [some (V.ref a0), none, none, none, none, none, none, none, none, none, none] from rfl]
    -- stream, machine, sides
    refine ⟨_, rfl, a0, us, rfl, hscr, fun a sa H1 s1 st1 => ?_⟩
    simp only [List.set_cons_zero, List.set_cons_succ]
    refine ⟨_, rfl, a, sa, rfl, st1, fun mach m ns k H2 d2 st2 hm2 hM => ?_⟩
    simp only [List.set_cons_zero, List.set_cons_succ]
    refine ⟨_, rfl, _, rfl, a, sa, mach, m, ns, k, rfl, st2, hm2, hM, fun zs l r A H3 d3 st3 hz3 hl3 hr3' hA => ?_⟩
    simp only [List.set_cons_zero, List.set_cons_succ]
    have hm3 := hm2.keep d3.tx
    clear st1 s1 d2 st2 hm2 d3 hscr
    -- value
    refine ⟨_, rfl, _, rfl, zs, _, _, _, rfl, rfl, SqL.of hz3, rfl, _, rfl, zs, _, _, _, rfl, rfl, SqL.of hz3, rfl, (A, m, ns, k), mach, l, r, rfl, hm3, hl3, hr3', hA, hM, fun H4 s4 => ?_, fun v e0 e1 me E M H4 s4 cs g => ?_⟩
    · exact ⟨_, rfl, _, rfl, iteD rfl (q H4)⟩
    · simp only [List.set_cons_zero, List.set_cons_succ]
      refine ⟨_, rfl, _, rfl, iteDN (by intro z; cases z) ?_⟩
      have R := g.right
      have hm4 := hm3.keep (TX.same s4)
      have st4 := st3.same s4
      -- is_right
      refine ⟨_, rfl, _, rfl, mach, v, l, r, e0, e1, me, m, ns, k, A, E, M, rfl, hm4, cs, g, fun H5 s5 => ⟨rfl, _, rfl, iteNS rfl ?_⟩⟩
      have hm5 := hm4.keep (TX.same s5)
      have st5 := st4.same s5
      have cs5 := cs.keep (TX.same s5)
      -- history
      refine ⟨_, rfl, mach, 150, m, ns, k, A, E, M, rfl, hm5, R, by decide, fun hz zs' H6 s6 hh hlen hbel => ?_⟩
      simp only [List.set_cons_zero, List.set_cons_succ]
      have hm6 := hm5.keep (TX.same s6)
      have st6 := st5.same s6
      have cs6 := cs5.keep (TX.same s6)
      clear hm3 hm4 hm5 st3 st4 st5 cs cs5 s4 s5 s6
      have bel_at : ∀ i : Nat, i ≤ 150 → ∃ y, atI (zs'.map V.ref) (i : Int) = some (.ref y) ∧ Bels H6 y ns k A E M 150 := fun i hi => by
        have h1 : i < zs'.length := by omega
        refine ⟨zs'[i], atI_lt (by omega) ?_, hbel _ (List.getElem_mem h1)⟩
        rw [List.getElem?_map, show ((i : Int)).toNat = i by omega, List.getElem?_eq_getElem h1]
        rfl
      -- the last one
      obtain ⟨y, hy1, st, p, c, lo, hi, C1, C2, C3, C4, C5⟩ := bel_at 150 (Nat.le_refl _)
      obtain ⟨d, kvs, c1, T, p0, p1⟩ := id C1
      refine ⟨_, rfl, _, rfl, hz, _, rfl, .inl (SqL.of hh), _, _, rfl, rfl, hz, _, _, _, rfl, rfl, SqL.of hh, by rw [List.length_map, hlen]; exact hy1, y, _, _, _, rfl, rfl, SqT.of c1, rfl, _, _, rfl, rfl, _, rfl, iteDN (by have := C2.1; omega) ?_⟩
      clear c1 T C1 C2 C3 C4 C5 p0 p1
      -- for k in range(0, 151, 7)
      refine ⟨0, 151, 7, 22, rfl, ⟨by decide, by decide, by decide +kernel, by decide +kernel⟩, for_rangeC (fun i σ H' => Same H6 H' ∧ ∃ u, σ = [some (.ref a0), some (.ref a), some (.ref mach), some (.ref zs), some (.ref v), some (.ref hz), u, none, none, none, none])
        ⟨Same.refl _, none, rfl⟩ ?_ ?_⟩
      · rintro i σ H7 hi ⟨s7, u, rfl⟩
        simp only [List.set_cons_zero, List.set_cons_succ]
        obtain ⟨y, hy1, st, p, c, lo, hi', C1, C2, C3, C4, C5⟩ := bel_at (i * 7) (by omega)
        have e7 : (0 : Int) + ((i : Nat) : Int) * 7 = ((i * 7 : Nat) : Int) := by rw [Int.zero_add, Int.natCast_mul]; rfl
        rw [e7]
        have C1' := C1.keep (Nl.same s7)
        refine ⟨_, rfl, _, rfl, _, rfl, _, rfl, hz, _, _, _, rfl, rfl, SqL.of (s7 _ _ hh), hy1, y, st, p, c, 150, rfl, C1', by decide, fun t yy lo2 hi2 H8 s8 ht hyy hle hf hb1 hb2 => ?_⟩
        obtain ⟨d, kvs, c1, T, p0, p1⟩ := id C1'
        refine ⟨mach, v, t, yy, l, r, e0, e1, me, m, ns, k, A, E, M, st, p, lo2, hi2, c, rfl, cs6.keep (TX.same (s7.trans s8)), g, ht, hyy, hle, hf, C3, hb1, hb2, by omega, by omega, fun z fnd b H9 s9 hz9 hb => ?_⟩
        have hbt : b = true := hb.mpr (Bel.any R C4 hf C5)
        subst hbt
        exact ⟨z, _, _, _, rfl, rfl, SqT.of hz9, rfl, rfl, _, rfl, iteNS rfl ⟨s7.trans (s8.trans s9), _, rfl⟩⟩
      · rintro σ H7 ⟨s7, u, rfl⟩
        have hm7 := hm6.keep (TX.same s7)
        have st7 := st6.same s7
        have cs7 := cs6.keep (TX.same s7)
        clear hm6 st6 cs6 hh hbel bel_at hz3 hl3 hr3'
        -- for k in range(12)
        refine ⟨12, rfl, by decide, by decide, for_range (fun i σ H' => Dr H7 H' ∧ St H' a sa ∧ ∃ u7 u8 u9 u10 u11, σ = [some (.ref a0), some (.ref a), some (.ref mach), some (.ref zs), some (.ref v), some (.ref hz), u7, u8, u9, u10, u11])
          ⟨Dr.refl _, st7, _, _, _, _, _, rfl⟩ ?_ ?_⟩
        · rintro i σ H8 hi ⟨d8, st8, u7, u8, u9, u10, u11, rfl⟩
          simp only [List.set_cons_zero, List.set_cons_succ]
          refine fun D hD => ?_
          simp only [List.set_cons_zero, List.set_cons_succ]
          have s9 : Same H8 (upd H8 D (.dK [])) := Same.new hD
          have st9 := st8.same s9
          have k2 := hM.kLo
          have k4 := hM.kHi
          refine ⟨_, rfl, a, sa, 7, rfl, st9, by decide, by decide, fun n0 H10 n00 n01 d10 st10 => ⟨_, _, rfl, rfl, ?_⟩⟩
          refine ⟨_, rfl, by omega, by omega, for_range (fun j σ H' => Dr H8 H' ∧ St H' a sa ∧ (∃ c kvs, Tape H' D c (3 + j) kvs ∧ ∀ x, Lt k (c x)) ∧ ∃ u u9, σ = [some (.ref a0), some (.ref a), some (.ref mach), some (.ref zs), some (.ref v), some (.ref hz), u, some (.ref D), u9, u10, u11])
            ⟨(Dr.same s9).trans d10, st10, ⟨fun _ => 0, [], ⟨d10.keep _ _ upd_same (ns_dK _), (fun _ h => nomatch h), fun _ _ => rfl, (fun _ _ e => nomatch e), Nat.zero_le _⟩, fun _ => ⟨Int.le_refl _, show (0 : Int) < (k : Int) by omega⟩⟩, _, _, rfl⟩ ?_ ?_⟩
          · rintro j σ H11 hj ⟨d11, st11, ⟨c, kvs, T, hc⟩, u, u9, rfl⟩
            simp only [List.set_cons_zero, List.set_cons_succ]
            obtain ⟨b0, xs0, ys0, m1, m2, m3, m4⟩ := (hm7.keep (d8.trans d11).tx).row0 hM
            refine ⟨_, rfl, _, rfl, mach, _, _, _, rfl, rfl, SqT.of m1, m2, b0, _, rfl, .inr (SqT.of m3), a, sa, _, rfl, st11, by omega, by omega, fun x H12 x0 x1 d12 st12 => ?_⟩
            rw [m4] at x1
            have T12 := T.keep (Nl.dr d12)
            refine ⟨_, rfl, _, rfl, _, _, rfl, rfl, D, _, rfl, DPut.k (k := Sum.inl (0 + (j : Int) - 3)) T12.at_ (szlt (by have := T12.len; omega)), ?_⟩
            refine ⟨(d11.trans d12).mut hD, st12.upd (st8.new hD), ⟨_, _, T12.put (p := 0 + (j : Int) - 3) (w := x) (by omega) (by omega), wr_in hc ⟨x0, x1⟩⟩, _, _, rfl⟩
          · rintro σ H11 ⟨d11, st11, ⟨c, kvs, T, hc⟩, u, u9, rfl⟩
            have T := T.mono (n' := 20) (by omega)
            obtain ⟨ym, m1, m2⟩ := (hm7.keep (d8.trans d11).tx).len
            have hns := hM.len
            have hs4 := hM.sLe
            have hs0 := hM.sPos
            -- now
            refine ⟨_, rfl, _, rfl, mach, _, rfl, .inr (SqT.of m1), a, sa, _, rfl, st11, by omega, by omega, fun ss H12 ss0 ss1 d12 st12 => ?_⟩
            rw [m2, hns] at ss1
            refine ⟨_, rfl, a, sa, 5, rfl, st12, by decide, by decide, fun pp H13 pp0 pp1 d13 st13 => ⟨_, _, rfl, rfl, _, rfl, sz1000 (by show 3 ≤ 100000; decide), fun y hy => ?_⟩⟩
            have s14 : Same H13 (upd H13 y (.tup [.int ss, .int (pp - 2), .ref D])) := Same.new hy
            have C : Conf (upd H13 y (.tup [.int ss, .int (pp - 2), .ref D])) y ss (pp - 2) c 20 := ⟨D, kvs, upd_same, (T.keep (Nl.dr (d12.trans d13))).keep (Nl.same s14), by omega, by omega⟩
            have d14 := d11.trans (d12.trans (d13.trans (Dr.same s14)))
            have st14 := st13.same s14
            simp only [List.set_cons_zero, List.set_cons_succ]
            generalize upd H13 y (.tup [.int ss, .int (pp - 2), .ref D]) = H14 at C d14 st14
            clear s14 hy d13 st13 d12 st12 T m1 m2 d11 st11 d10 st10 s9 st9
            have tx14 := (d8.trans d14).tx
            have hss : Lt ns ss := ⟨ss0, ss1⟩
            -- reads(machine, value, configuration(now))[1]
            refine ⟨_, rfl, _, rfl, _, rfl, y, ss, pp - 2, c, 20, rfl, C, by decide, fun t yy lo hi2 H15 s15 ht hyy hle hf hb1 hb2 => ?_⟩
            refine ⟨mach, v, t, yy, l, r, e0, e1, me, m, ns, k, A, E, M, ss, pp - 2, lo, hi2, c, rfl, (cs7.keep tx14).keep (TX.same s15), g, ht, hyy, hle, hf, hc, hb1, hb2, by omega, by omega, fun z fnd b H16 s16 hz16 hb => ?_⟩
            refine ⟨z, _, _, _, rfl, rfl, SqT.of hz16, rfl, _, rfl, ?_⟩
            have s1416 := s15.trans s16
            have d16 := d14.trans (Dr.same s1416)
            have st16 := st14.same s1416
            have C16 := C.keep (Nl.same s1416)
            cases b with
            | false => exact iteF ⟨d8.trans d16, st16, _, _, _, _, _, rfl⟩
            | true =>
              refine iteT ?_
              have B := hb.mp rfl
              refine ⟨_, rfl, _, rfl, mach, y, m, ns, k, ss, pp - 2, c, 20, rfl, hm7.keep (d8.trans d16).tx, hM, C16, by decide, hss, hc, fun z2 H17 s17 C17 => ?_⟩
              have rr := hM.rlR hss (hc (pp - 2))
              have fw := fits_wr (p := pp - 2) (w := (rl m ss (c (pp - 2))).1) hf
              obtain ⟨B1, B2⟩ := Bel.step R hf fw B (show wr c (pp - 2) (rl m ss (c (pp - 2))).1 (pp - 2) = _ from if_pos rfl) (fun x hx => if_neg hx)
              have hc' := wr_in (p := pp - 2) hc rr.1
              generalize wr c (pp - 2) (rl m ss (c (pp - 2))).1 = c' at C17 fw B2 hc'
              generalize rl m ss (c (pp - 2)) = u at C17 B1 B2 rr
              simp only [List.set_cons_zero, List.set_cons_succ]
              obtain ⟨dd, kk, w1, T', w2, w3⟩ := id C17
              refine ⟨_, rfl, z2, _, _, _, rfl, rfl, SqT.of w1, rfl, _, _, rfl, rfl, _, rfl, iteDN (by omega) ?_⟩
              refine ⟨_, rfl, _, rfl, _, rfl, z2, u.2.2, pp - 2 + u.2.1, c', 21, rfl, C17, by decide, fun t2 yy2 lo3 hi3 H18 s18 ht2 hyy2 hle2 hf2 hb3 hb4 => ?_⟩
              refine ⟨mach, v, t2, yy2, l, r, e0, e1, me, m, ns, k, A, E, M, u.2.2, pp - 2 + u.2.1, lo3, hi3, c', rfl, (cs7.keep (d8.trans d16).tx).keep (TX.same (s17.trans s18)), g, ht2, hyy2, hle2, hf2, hc', hb3, hb4, by omega, by omega, fun z3 fnd3 b3 H19 s19 hz19 hb5 => ?_⟩
              have hbt : b3 = true := hb5.mpr (Bel.any R fw hf2 B2)
              subst hbt
              have s1719 := s17.trans (s18.trans s19)
              exact ⟨z3, _, _, _, rfl, rfl, SqT.of hz19, rfl, rfl, _, rfl, iteNS rfl ⟨d8.trans (d16.trans (Dr.same s1719)), st16.same s1719, _, _, _, _, _, rfl⟩⟩
        · rintro σ H8 ⟨d8, st8, u7, u8, u9, u10, u11, rfl⟩
          exact q H8
end
end Tac
set_option maxHeartbeats 0
namespace Tac
open PySem PySem.Spec PyProof.Rows L2 TacR
/-! ### the head: facts by names, the run -/
def gD (x : Str) (i : Nat) : He.DefD := ⟨(x, none), x, x, defArgs (top i), defBody (top i), defScope (top i), [], []⟩
def mD (m q : Str) (i : Nat) : He.DefD := ⟨("Closing", some m), m, q, defArgs (inClass (top 13) i), defBody (inClass (top 13) i), defScope (inClass (top 13) i), [], []⟩
def fn : List He.DefD := [gD "is_number" 7, gD "is_automaton" 8, gD "are_rows" 9, gD "has_form" 10, gD "edges_into" 11, gD "is_right" 12,
  mD "__init__" "Closing.__init__" 0, mD "add_element" "Closing.add_element" 1, mD "add_edge" "Closing.add_edge" 2, mD "demand" "Closing.demand" 3, mD "move" "Closing.move" 4, mD "close" "Closing.close" 5,
  gD "close" 14, gD "read" 15, gD "reads" 16, gD "_law_stream" 18, gD "_law_draw" 19, gD "_law_needed" 20, gD "_law_grown_machine" 21, gD "_law_machine" 22, gD "_law_after" 23, gD "_law_history" 24,
  gD "_law_automaton" 25, gD "_law_gram" 26, gD "_law_sides" 27, gD "_law_configuration" 28, gD "_law_closed" 29, gD "law" 30]
def fa : List He.Fa := [.glo "is_number", .glo "is_automaton", .glo "are_rows", .glo "has_form", .glo "edges_into", .glo "is_right", .glo "Closing", .glo "close", .glo "read", .glo "reads",
  .glo "_law_stream", .glo "_law_draw", .glo "_law_needed", .glo "_law_grown_machine", .glo "_law_machine", .glo "_law_after", .glo "_law_history", .glo "_law_automaton", .glo "_law_gram", .glo "_law_sides", .glo "_law_configuration", .glo "_law_closed", .glo "law",
  .int "STOP" (-1), .int "MOST_ROWS" 64, .int "MOST_ELEMENTS" 3000,
  .free "isinstance", .free "all", .free "range", .free "len", .free "tuple", .free "sorted", .free "list", .free "int", .free "abs", .free "dict", .free "min", .free "max", .free "bool",
  .cls "Closing", .mkr "Closing", .noat "Closing" "machine", .noat "Closing" "automata", .noat "Closing" "edges", .noat "Closing" "into", .noat "Closing" "members", .noat "Closing" "waiting", .noat "Closing" "askers",
  .meth "Closing" "add_element", .meth "Closing" "add_edge", .meth "Closing" "demand", .meth "Closing" "move", .meth "Closing" "close"]
def names : List PySem.Str := ["TacetError", "TooLarge", "STOP", "MOST_ROWS", "MOST_ELEMENTS", "is_number", "is_automaton", "are_rows", "has_form", "edges_into", "is_right", "Closing", "close", "read", "reads",
  "_law_stream", "_law_draw", "_law_needed", "_law_grown_machine", "_law_machine", "_law_after", "_law_history", "_law_automaton", "_law_gram", "_law_sides", "_law_configuration", "_law_closed"]
abbrev hRow : PySem.W.OpenRow := PySem.W.OpenLaw.row PySem.Challenge.rw_tacet_k42_whole_closed_sets_are_closed
abbrev hk : PySem.W.Hook := He.hookD 5 fa fn
def ob (s : PySem.W.SharedT) : He.AlD := He.obsDG 5 fa fn (HandSHeadRun.getT s)
theorem ob_eq (s : PySem.W.SharedT) : ob s = hk.obs s.abs := He.obsDG_eq (HandSHeadRun.getT_eq s)
theorem run (w : World) : HandSHeadRun.RunEq hRow (PySem.W.view hRow.prog [30]) hk ob 6000 names w := by
  intro os
  kernel_rfl
section
variable {P : Program} {w : World} {K : PySem.W.Frag} {h : Heap} {mg : Str → Option Value} {f : Addr}
theorem gx (X : K.In h) (G : h.Ns mainGlobals mg) (c : He.SaysD fa fn K) : Gx mg where
  isi := He.free_ok X G (c.fact 26 (f := .free "isinstance") rfl)
  all := He.free_ok X G (c.fact 27 (f := .free "all") rfl)
  range := He.free_ok X G (c.fact 28 (f := .free "range") rfl)
  len := He.free_ok X G (c.fact 29 (f := .free "len") rfl)
  tuple := He.free_ok X G (c.fact 30 (f := .free "tuple") rfl)
  sorted := He.free_ok X G (c.fact 31 (f := .free "sorted") rfl)
  list := He.free_ok X G (c.fact 32 (f := .free "list") rfl)
  int := He.free_ok X G (c.fact 33 (f := .free "int") rfl)
  abs := He.free_ok X G (c.fact 34 (f := .free "abs") rfl)
  dict := He.free_ok X G (c.fact 35 (f := .free "dict") rfl)
  min := He.free_ok X G (c.fact 36 (f := .free "min") rfl)
  max := He.free_ok X G (c.fact 37 (f := .free "max") rfl)
  bool := He.free_ok X G (c.fact 38 (f := .free "bool") rfl)
  stop := He.int_ok X G (c.fact 23 (f := .int "STOP" (-1)) rfl)
  rows := He.int_ok X G (c.fact 24 (f := .int "MOST_ROWS" 64) rfl)
  elems := He.int_ok X G (c.fact 25 (f := .int "MOST_ELEMENTS" 3000) rfl)
theorem tx (c : He.SaysD fa fn K) : Tx K (He.ga K "Closing") where
  cl := He.cls_ok (c.fact 39 (f := .cls "Closing") rfl)
  nMach := He.noat_ok (c.fact 41 (f := .noat "Closing" "machine") rfl)
  nAut := He.noat_ok (c.fact 42 (f := .noat "Closing" "automata") rfl)
  nEd := He.noat_ok (c.fact 43 (f := .noat "Closing" "edges") rfl)
  nIn := He.noat_ok (c.fact 44 (f := .noat "Closing" "into") rfl)
  nMe := He.noat_ok (c.fact 45 (f := .noat "Closing" "members") rfl)
  nWa := He.noat_ok (c.fact 46 (f := .noat "Closing" "waiting") rfl)
  nAk := He.noat_ok (c.fact 47 (f := .noat "Closing" "askers") rfl)
theorem facts (X : K.In h) (G : h.Ns mainGlobals mg) (hfa : mg ("law" : Str) = some (.ref f)) (c : He.SaysD fa fn K) :
    ∃ fd : FuncData, (∀ (s : Shared) (v : Value), BindsTo s fd ⟨[v], []⟩ [("_law_script", v)]) ∧ ∀ base : Heap, K.In base → base.Ns mainGlobals mg → FnOk P w K mg base CX0 8 f fd ["_law_script"] (spLaw K) := by
  obtain ⟨fdNum, FNum⟩ := c.def_ 0 (d := gD "is_number" 7) rfl
  obtain ⟨fdAut, FAut⟩ := c.def_ 1 (d := gD "is_automaton" 8) rfl
  obtain ⟨fdRows, FRows⟩ := c.def_ 2 (d := gD "are_rows" 9) rfl
  obtain ⟨fdForm, FForm⟩ := c.def_ 3 (d := gD "has_form" 10) rfl
  obtain ⟨fdInto, FInto⟩ := c.def_ 4 (d := gD "edges_into" 11) rfl
  obtain ⟨fdRight, FRight⟩ := c.def_ 5 (d := gD "is_right" 12) rfl
  obtain ⟨fdInit, FInit⟩ := c.def_ 6 (d := mD "__init__" "Closing.__init__" 0) rfl
  obtain ⟨fdAddEl, FAddEl⟩ := c.def_ 7 (d := mD "add_element" "Closing.add_element" 1) rfl
  obtain ⟨fdEdge, FEdge⟩ := c.def_ 8 (d := mD "add_edge" "Closing.add_edge" 2) rfl
  obtain ⟨fdDem, FDem⟩ := c.def_ 9 (d := mD "demand" "Closing.demand" 3) rfl
  obtain ⟨fdMove, FMove⟩ := c.def_ 10 (d := mD "move" "Closing.move" 4) rfl
  obtain ⟨fdCloseM, FCloseM⟩ := c.def_ 11 (d := mD "close" "Closing.close" 5) rfl
  obtain ⟨fdClose, FClose⟩ := c.def_ 12 (d := gD "close" 14) rfl
  obtain ⟨fdRead, FRead⟩ := c.def_ 13 (d := gD "read" 15) rfl
  obtain ⟨fdReads, FReads⟩ := c.def_ 14 (d := gD "reads" 16) rfl
  obtain ⟨fdStream, FStream⟩ := c.def_ 15 (d := gD "_law_stream" 18) rfl
  obtain ⟨fdDraw, FDraw⟩ := c.def_ 16 (d := gD "_law_draw" 19) rfl
  obtain ⟨fdNeed, FNeed⟩ := c.def_ 17 (d := gD "_law_needed" 20) rfl
  obtain ⟨fdGrown, FGrown⟩ := c.def_ 18 (d := gD "_law_grown_machine" 21) rfl
  obtain ⟨fdMach, FMach⟩ := c.def_ 19 (d := gD "_law_machine" 22) rfl
  obtain ⟨fdAfter, FAfter⟩ := c.def_ 20 (d := gD "_law_after" 23) rfl
  obtain ⟨fdHist, FHist⟩ := c.def_ 21 (d := gD "_law_history" 24) rfl
  obtain ⟨fdAutom, FAutom⟩ := c.def_ 22 (d := gD "_law_automaton" 25) rfl
  obtain ⟨fdGram, FGram⟩ := c.def_ 23 (d := gD "_law_gram" 26) rfl
  obtain ⟨fdSides, FSides⟩ := c.def_ 24 (d := gD "_law_sides" 27) rfl
  obtain ⟨fdConf, FConf⟩ := c.def_ 25 (d := gD "_law_configuration" 28) rfl
  obtain ⟨fdClosed, FClosed⟩ := c.def_ 26 (d := gD "_law_closed" 29) rfl
  obtain ⟨fd, F⟩ := c.def_ 27 (d := gD "law" 30) rfl
  have e := hfa.symm.trans (He.glo_ok X G (c.fact 22 (f := .glo "law") rfl))
  cases e
  have b := FunD.bindsA (ps := ["_law_script"]) F fun _ _ _ _ _ _ us hl => match us, hl with | [_], _ => rfl
  have g := gx X G c
  have t := tx c
  have gNum := He.glo_ok X G (c.fact 0 (f := .glo "is_number") rfl)
  have gAut := He.glo_ok X G (c.fact 1 (f := .glo "is_automaton") rfl)
  have gRows := He.glo_ok X G (c.fact 2 (f := .glo "are_rows") rfl)
  have gForm := He.glo_ok X G (c.fact 3 (f := .glo "has_form") rfl)
  have gInto := He.glo_ok X G (c.fact 4 (f := .glo "edges_into") rfl)
  have gRight := He.glo_ok X G (c.fact 5 (f := .glo "is_right") rfl)
  have gClosing := He.glo_ok X G (c.fact 6 (f := .glo "Closing") rfl)
  have gClose := He.glo_ok X G (c.fact 7 (f := .glo "close") rfl)
  have gRead := He.glo_ok X G (c.fact 8 (f := .glo "read") rfl)
  have gReads := He.glo_ok X G (c.fact 9 (f := .glo "reads") rfl)
  have gStream := He.glo_ok X G (c.fact 10 (f := .glo "_law_stream") rfl)
  have gDraw := He.glo_ok X G (c.fact 11 (f := .glo "_law_draw") rfl)
  have gNeed := He.glo_ok X G (c.fact 12 (f := .glo "_law_needed") rfl)
  have gGrown := He.glo_ok X G (c.fact 13 (f := .glo "_law_grown_machine") rfl)
  have gMach := He.glo_ok X G (c.fact 14 (f := .glo "_law_machine") rfl)
  have gAfter := He.glo_ok X G (c.fact 15 (f := .glo "_law_after") rfl)
  have gHist := He.glo_ok X G (c.fact 16 (f := .glo "_law_history") rfl)
  have gAutom := He.glo_ok X G (c.fact 17 (f := .glo "_law_automaton") rfl)
  have gGram := He.glo_ok X G (c.fact 18 (f := .glo "_law_gram") rfl)
  have gSides := He.glo_ok X G (c.fact 19 (f := .glo "_law_sides") rfl)
  have gConf := He.glo_ok X G (c.fact 20 (f := .glo "_law_configuration") rfl)
  have gClosed := He.glo_ok X G (c.fact 21 (f := .glo "_law_closed") rfl)
  have mAddEl := He.meth_ok (c.fact 48 (f := .meth "Closing" "add_element") rfl)
  have mEdge := He.meth_ok (c.fact 49 (f := .meth "Closing" "add_edge") rfl)
  have mDem := He.meth_ok (c.fact 50 (f := .meth "Closing" "demand") rfl)
  have mMove := He.meth_ok (c.fact 51 (f := .meth "Closing" "move") rfl)
  have mClose := He.meth_ok (c.fact 52 (f := .meth "Closing" "close") rfl)
  have mk := He.mkr_ok (c.fact 40 (f := .mkr "Closing") rfl)
  refine ⟨fd, fun s v => b s [v] rfl, fun base _ _ => ?_⟩
  have kForm : FnOk P w K mg base CX0 3 _ fdForm ["machine", "value"] spForm := ok_form FForm g FNum gNum FAut gAut FRows gRows
  have kRight : FnOk P w K mg base CX0 4 _ fdRight ["machine", "value"] spRight := ok_right FRight g FForm gForm kForm FInto gInto
  have kReads : FnOk P w K mg base CX0 2 _ fdReads ["machine", "closed_set", "configuration"] spReads := ok_reads FReads g FRead gRead
  have kGrown : FnOk P w K mg base CX0 2 _ fdGrown ["_law_stream_here"] spGrown := ok_grown FGrown g FDraw gDraw FNeed gNeed
  have kMach : FnOk P w K mg base CX0 3 _ fdMach ["_law_stream_here"] spGrown := ok_mach FMach g FDraw gDraw FGrown gGrown kGrown
  have kSides : FnOk P w K mg base CX0 3 _ fdSides ["_law_stream_here", "_law_machine_here"] spSides := ok_sides FSides g FDraw gDraw FAutom gAutom FGram gGram
  have kHist : FnOk P w K mg base CX0 2 _ fdHist ["_law_machine_here", "_law_count"] spHist := ok_hist FHist g FAfter gAfter
  have kClose : FnOk P w K mg base CX0 6 _ fdClose ["machine", "left", "right"] spCloseX := FnOk.ex fun x => by
    obtain ⟨A, m, ns, k⟩ := x
    have kDem : FnOk P w K mg base CX0 2 _ fdDem ["self", "side", "number", "following", "row", "symbol"] (spDem (He.ga K "Closing") A m) := ok_dem FDem t FAddEl mAddEl
    have kEdge : FnOk P w K mg base CX0 3 _ fdEdge ["self", "side", "row", "symbol"] (spEdge (He.ga K "Closing") A m ns k) := ok_edge FEdge g t FDem mDem kDem
    have kMove : FnOk P w K mg base CX0 4 _ fdMove ["self", "side", "own", "target", "rule"] (spMove (He.ga K "Closing") A m ns k) := ok_move FMove g t FDem mDem kDem FEdge mEdge kEdge
    have kCloseM : FnOk P w K mg base CX0 5 _ fdCloseM ["self"] (spCloseM (He.ga K "Closing") A m ns k) := ok_closeM FCloseM g t FAddEl mAddEl FEdge mEdge kEdge FMove mMove kMove
    exact ok_close FClose g t mk gClosing FInit FCloseM mClose kCloseM
  have kClosed : FnOk P w K mg base CX0 7 _ fdClosed ["_law_machine_here", "_law_left", "_law_right"] spCloseX := ok_closed FClosed FClose gClose kClose
  exact ok_law F g FStream gStream FDraw gDraw FMach gMach kMach FSides gSides kSides FClosed gClosed kClosed FRight gRight kRight FHist gHist kHist FAfter gAfter FReads gReads kReads FConf gConf
end
end Tac
open PySem PySem.W PySem.Calls PyProof.Rows
theorem PySem.Challenge.cw_tacet_k42_whole_closed_sets_are_closed_holds : PySem.Challenge.rw_tacet_k42_whole_closed_sets_are_closed.Holds := by
  w_on; o_law
  refine HandSHeadRun.head_any (r := OpenLaw.row PySem.Challenge.rw_tacet_k42_whole_closed_sets_are_closed) (q := view (OpenLaw.row PySem.Challenge.rw_tacet_k42_whole_closed_sets_are_closed).prog [30]) (H := Tac.hk) (ob := Tac.ob) (M := 6000) (loose := Tac.names) (d := HandSHeadRun.topDef (OpenLaw.row PySem.Challenge.rw_tacet_k42_whole_closed_sets_are_closed).prog 30) (kwd := []) Tac.ob_eq
    (by kernel_rfl) (fun s => by kernel_rfl) Tac.run (by kernel_rfl) (by kernel_rfl) (by kernel_rfl) (by rfl) (by first | assumption | decide +kernel) (by decide +kernel) ⟨rfl, rfl, rfl, rfl, rfl, by decide +kernel⟩ ?hw ?hc
  case hw => w_witness2
  case hc =>
    refine L2.walk_ofE (l := PySem.Challenge.rw_tacet_k42_whole_closed_sets_are_closed) (n := 63) (k := 8) (x := "_law_script") (CX := L2.CX0) rfl (by decide) (by kernel_rfl) ⟨rfl, by decide, by decide⟩ ?F (fun _ _ _ _ z => z)
    intro w mg fa h Y G hmg0
    obtain ⟨K, KX, c⟩ := Y
    have hmg : mg ("law" : PySem.Str) = some (.ref fa) := by
      have e : (HandSHeadRun.topDef (OpenLaw.row PySem.Challenge.rw_tacet_k42_whole_closed_sets_are_closed).prog 30).name = ("law" : PySem.Str) := by kernel_rfl
      rw [← e]
      exact hmg0
    obtain ⟨fd, hb, hF⟩ := Tac.facts (P := (PySem.Challenge.rw_tacet_k42_whole_closed_sets_are_closed).prog) (w := w) KX G hmg c
    exact ⟨K, fd, Tac.spLaw K, KX, hb, fun H a ns hl _ hS => ⟨a, ns, rfl, hS, fun _ => rfl⟩, hF⟩
