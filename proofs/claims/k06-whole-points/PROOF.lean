import PyProof.Rows.All
import Wide.All
import OpenK.AllK
import Wide.FinOn
import HandS.ForMost
import HandS.TupAny
import HandS.IsInst
import HandS.Rev
import PySem.Challenge.RW_cupdraw_k06_whole_points_are_shared
set_option Elab.async false
set_option linter.all false
set_option maxRecDepth 100000
set_option maxHeartbeats 4000000
/-! The plain law: points of players, by lists and whole numbers alone. -/
namespace K6

/-- a game: a bye or a contest -/
inductive G where
  | bye (p : Int)
  | con (h a x y : Int)

structure Rl where
  w : Int
  d : Int
  l : Int

def gives (r : Rl) : G → Int → Int
  | .bye q, p => if p = q then r.w else 0
  | .con h a x y, p => if p = h ∨ p = a then (if x = y then r.d else if p = (if x < y then a else h) then r.w else r.l) else 0

def pts (r : Rl) (gs : List G) (p : Int) : Int := (gs.map fun g => gives r g p).sum
def table (r : Rl) (gs : List G) (n : Nat) : List Int := (List.range n).map fun (k : Nat) => pts r gs (k : Int)
def total1 (r : Rl) : G → Int
  | .bye _ => r.w
  | .con _ _ x y => if x = y then 2 * r.d else r.w + r.l
def total (r : Rl) (gs : List G) : Int := (gs.map (total1 r)).sum

/-- a game of the players 0 to n - 1 -/
def GOk (n : Nat) : G → Prop
  | .bye p => 0 ≤ p ∧ p < n
  | .con h a _ _ => 0 ≤ h ∧ h < n ∧ 0 ≤ a ∧ a < n ∧ h ≠ a

/-- a numbering of 0 to n - 1 -/
structure Num (n : Nat) (t : List Int) : Prop where
  len : t.length = n
  bd : ∀ (i : Nat) (v : Int), t[i]? = some v → 0 ≤ v ∧ v < n
  inj : ∀ (i j : Nat) (v : Int), t[i]? = some v → t[j]? = some v → i = j

def ren (t : List Int) : G → G
  | .bye p => .bye (t.getD p.toNat 0)
  | .con h a x y => .con (t.getD a.toNat 0) (t.getD h.toNat 0) y x
def renamed (t : List Int) (gs : List G) : List G := (gs.map (ren t)).reverse

theorem table_length (r : Rl) (gs : List G) (n : Nat) : (table r gs n).length = n := by
  unfold table
  rw [List.length_map, List.length_range]
theorem table_get (r : Rl) (gs : List G) {n k : Nat} (h : k < n) : (table r gs n)[k]? = some (pts r gs (k : Int)) := by
  unfold table
  rw [List.getElem?_map, List.getElem?_range h]
  rfl

theorem sum_snoc (xs : List Int) (x : Int) : (xs ++ [x]).sum = xs.sum + x := by
  induction xs with
  | nil => simp
  | cons y ys ih =>
    rw [List.cons_append, List.sum_cons, List.sum_cons, ih]
    omega
theorem sum_rev (xs : List Int) : xs.reverse.sum = xs.sum := by
  induction xs with
  | nil => rfl
  | cons y ys ih =>
    rw [List.reverse_cons, sum_snoc, ih, List.sum_cons]
    omega
theorem sum_add {α : Type} (f g : α → Int) (xs : List α) : (xs.map fun x => f x + g x).sum = (xs.map f).sum + (xs.map g).sum := by
  induction xs with
  | nil => rfl
  | cons y ys ih =>
    rw [List.map_cons, List.map_cons, List.map_cons, List.sum_cons, List.sum_cons, List.sum_cons, ih]
    omega
theorem sum_zero {α : Type} (xs : List α) : (xs.map fun _ => (0 : Int)).sum = 0 := by
  induction xs with
  | nil => rfl
  | cons y ys ih =>
    rw [List.map_cons, List.sum_cons, ih]
    rfl
theorem sum_swap {α β : Type} (f : α → β → Int) (xs : List α) (ys : List β) : (xs.map fun x => (ys.map fun y => f x y).sum).sum = (ys.map fun y => (xs.map fun x => f x y).sum).sum := by
  induction xs with
  | nil => exact (sum_zero ys).symm
  | cons x r ih =>
    rw [List.map_cons, List.sum_cons, ih, ← sum_add]
    congr 1
theorem sum_congr {α : Type} {f g : α → Int} {xs : List α} (h : ∀ x, x ∈ xs → f x = g x) : (xs.map f).sum = (xs.map g).sum := by
  rw [List.map_congr_left h]

/-- one place of 0 to n - 1 holds c -/
theorem sum_one (c : Int) : ∀ (n : Nat) (p : Int), 0 ≤ p → ((List.range n).map fun (k : Nat) => if (k : Int) = p then c else 0).sum = if p < n then c else 0
  | 0, p, h => by
    rw [if_neg (by omega)]
    rfl
  | n + 1, p, h => by
    rw [List.range_succ, List.map_append, List.map_singleton, sum_snoc, sum_one c n p h]
    by_cases h1 : (n : Int) = p
    · rw [if_neg (show ¬ p < (n : Int) by omega), if_pos h1, if_pos (show p < ((n + 1 : Nat) : Int) by omega)]
      omega
    · rw [if_neg h1]
      by_cases h2 : p < (n : Int)
      · rw [if_pos h2, if_pos (show p < ((n + 1 : Nat) : Int) by omega)]
        omega
      · rw [if_neg h2, if_neg (show ¬ p < ((n + 1 : Nat) : Int) by omega)]
        rfl

/-- what one game gives to all players -/
theorem gives_sum (r : Rl) {n : Nat} {g : G} (h : GOk n g) : ((List.range n).map fun (k : Nat) => gives r g (k : Int)).sum = total1 r g := by
  cases g with
  | bye p =>
    obtain ⟨h0, h1⟩ := h
    show ((List.range n).map fun (k : Nat) => if (k : Int) = p then r.w else 0).sum = r.w
    rw [sum_one r.w n p h0, if_pos h1]
  | con u a x y =>
    obtain ⟨h0, h1, h2, h3, h4⟩ := h
    have split : ∀ cu ca : Int, ((List.range n).map fun (k : Nat) => (if (k : Int) = u then cu else 0) + (if (k : Int) = a then ca else 0)).sum = cu + ca := fun cu ca => by
      rw [sum_add, sum_one cu n u h0, sum_one ca n a h2, if_pos h1, if_pos h3]
    show ((List.range n).map fun (k : Nat) => if (k : Int) = u ∨ (k : Int) = a then (if x = y then r.d else if (k : Int) = (if x < y then a else u) then r.w else r.l) else 0).sum = if x = y then 2 * r.d else r.w + r.l
    by_cases hxy : x = y
    · rw [if_pos hxy]
      have e := split r.d r.d
      rw [show 2 * r.d = r.d + r.d by omega, ← e]
      refine sum_congr fun k _ => ?_
      rw [if_pos hxy]
      by_cases k1 : (k : Int) = u
      · rw [if_pos (.inl k1), if_pos k1, if_neg (show ¬ (k : Int) = a by omega)]
        omega
      · rw [if_neg k1]
        by_cases k2 : (k : Int) = a
        · rw [if_pos (.inr k2), if_pos k2]
          omega
        · rw [if_neg (show ¬ ((k : Int) = u ∨ (k : Int) = a) by omega), if_neg k2]
          rfl
    · rw [if_neg hxy]
      by_cases hlt : x < y
      · have e := split r.l r.w
        rw [show r.w + r.l = r.l + r.w by omega, ← e]
        refine sum_congr fun k _ => ?_
        rw [if_neg hxy, if_pos hlt]
        by_cases k1 : (k : Int) = u
        · rw [if_pos (.inl k1), if_pos k1, if_neg (show ¬ (k : Int) = a by omega), if_neg (show ¬ (k : Int) = a by omega)]
          omega
        · rw [if_neg k1]
          by_cases k2 : (k : Int) = a
          · rw [if_pos (.inr k2), if_pos k2, if_pos k2]
            omega
          · rw [if_neg (show ¬ ((k : Int) = u ∨ (k : Int) = a) by omega), if_neg k2]
            rfl
      · have e := split r.w r.l
        rw [← e]
        refine sum_congr fun k _ => ?_
        rw [if_neg hxy, if_neg hlt]
        by_cases k1 : (k : Int) = u
        · rw [if_pos (.inl k1), if_pos k1, if_pos k1, if_neg (show ¬ (k : Int) = a by omega)]
          omega
        · rw [if_neg k1]
          by_cases k2 : (k : Int) = a
          · rw [if_pos (.inr k2), if_pos k2, if_neg k1]
            omega
          · rw [if_neg (show ¬ ((k : Int) = u ∨ (k : Int) = a) by omega), if_neg k1, if_neg k2]
            rfl

/-- THE FIRST HALF: all points together -/
theorem table_sum (r : Rl) {n : Nat} {gs : List G} (h : ∀ g, g ∈ gs → GOk n g) : (table r gs n).sum = total r gs := by
  unfold table pts total
  rw [sum_swap (fun (k : Nat) g => gives r g (k : Int))]
  exact sum_congr fun g hg => gives_sum r (h g hg)

theorem getD_of {t : List Int} {i : Nat} {v : Int} (h : t[i]? = some v) : t.getD i 0 = v := by
  rw [List.getD_eq_getElem?_getD, h]
  rfl
theorem Num.get {n : Nat} {t : List Int} (N : Num n t) {i : Nat} (h : i < n) : t[i]? = some (t.getD i 0) := by
  have hl : i < t.length := by
    rw [N.len]
    exact h
  rw [List.getD_eq_getElem?_getD, List.getElem?_eq_getElem hl]
  rfl
theorem Num.same {n : Nat} {t : List Int} (N : Num n t) {i j : Nat} (hi : i < n) (hj : j < n) : t.getD i 0 = t.getD j 0 ↔ i = j := by
  constructor
  · intro e
    exact N.inj i j _ (N.get hi) (by rw [e]; exact N.get hj)
  · intro e
    rw [e]
theorem Num.sameI {n : Nat} {t : List Int} (N : Num n t) {k : Nat} {p : Int} (hk : k < n) (h0 : 0 ≤ p) (h1 : p < n) : t.getD k 0 = t.getD p.toNat 0 ↔ (k : Int) = p := by
  rw [N.same hk (show p.toNat < n by omega)]
  omega

theorem gives_ren (r : Rl) {n : Nat} {t : List Int} (N : Num n t) {g : G} (h : GOk n g) {k : Nat} (hk : k < n) : gives r (ren t g) (t.getD k 0) = gives r g (k : Int) := by
  cases g with
  | bye p =>
    obtain ⟨h0, h1⟩ := h
    show (if t.getD k 0 = t.getD p.toNat 0 then r.w else 0) = if (k : Int) = p then r.w else 0
    by_cases e : (k : Int) = p
    · rw [if_pos e, if_pos ((N.sameI hk h0 h1).mpr e)]
    · rw [if_neg e, if_neg fun z => e ((N.sameI hk h0 h1).mp z)]
  | con u a x y =>
    obtain ⟨h0, h1, h2, h3, h4⟩ := h
    have eu := N.sameI hk h0 h1
    have ea := N.sameI hk h2 h3
    show (if t.getD k 0 = t.getD a.toNat 0 ∨ t.getD k 0 = t.getD u.toNat 0 then (if y = x then r.d else if t.getD k 0 = (if y < x then t.getD u.toNat 0 else t.getD a.toNat 0) then r.w else r.l) else 0)
      = if (k : Int) = u ∨ (k : Int) = a then (if x = y then r.d else if (k : Int) = (if x < y then a else u) then r.w else r.l) else 0
    by_cases hin : (k : Int) = u ∨ (k : Int) = a
    · rw [if_pos hin, if_pos (show t.getD k 0 = t.getD a.toNat 0 ∨ t.getD k 0 = t.getD u.toNat 0 from hin.elim (fun z => .inr (eu.mpr z)) fun z => .inl (ea.mpr z))]
      by_cases hxy : x = y
      · rw [if_pos hxy, if_pos hxy.symm]
      · rw [if_neg hxy, if_neg (Ne.symm hxy)]
        by_cases hlt : x < y
        · rw [if_pos hlt, if_neg (show ¬ y < x by omega)]
          by_cases z : (k : Int) = a
          · rw [if_pos z, if_pos (ea.mpr z)]
          · rw [if_neg z, if_neg fun q => z (ea.mp q)]
        · rw [if_neg hlt, if_pos (show y < x by omega)]
          by_cases z : (k : Int) = u
          · rw [if_pos z, if_pos (eu.mpr z)]
          · rw [if_neg z, if_neg fun q => z (eu.mp q)]
    · rw [if_neg hin, if_neg fun z => hin (z.elim (fun q => .inr (ea.mp q)) fun q => .inl (eu.mp q))]

/-- THE SECOND HALF: the points by another numbering -/
theorem pts_ren (r : Rl) {n : Nat} {t : List Int} (N : Num n t) {gs : List G} (h : ∀ g, g ∈ gs → GOk n g) {k : Nat} (hk : k < n) : pts r (renamed t gs) (t.getD k 0) = pts r gs (k : Int) := by
  unfold pts renamed
  rw [List.map_reverse, sum_rev, List.map_map]
  exact sum_congr fun g hg => gives_ren r N (h g hg) hk
theorem other_get (r : Rl) {n : Nat} {t : List Int} (N : Num n t) {gs : List G} (h : ∀ g, g ∈ gs → GOk n g) {k : Nat} (hk : k < n) :
    ∃ j : Nat, t[k]? = some (j : Int) ∧ (table r (renamed t gs) n)[j]? = some (pts r gs (k : Int)) := by
  have e := N.get hk
  obtain ⟨b0, b1⟩ := N.bd k _ e
  refine ⟨(t.getD k 0).toNat, by rw [e]; congr 1; omega, ?_⟩
  rw [table_get r _ (show (t.getD k 0).toNat < n by omega), show (((t.getD k 0).toNat : Nat) : Int) = t.getD k 0 by omega, pts_ren r N h hk]

/-- the numbering that changes nothing -/
theorem Num.id (n : Nat) : Num n ((List.range n).map fun (k : Nat) => (k : Int)) := by
  have g : ∀ (i : Nat) (v : Int), ((List.range n).map fun (k : Nat) => (k : Int))[i]? = some v → v = (i : Int) ∧ i < n := fun i v e => by
    rw [List.getElem?_map] at e
    by_cases hi : i < n
    · rw [List.getElem?_range hi] at e
      exact ⟨(Option.some.inj e).symm, hi⟩
    · rw [List.getElem?_eq_none (by rw [List.length_range]; omega)] at e
      cases e
  refine ⟨by rw [List.length_map, List.length_range], fun i v e => ?_, fun i j v e1 e2 => ?_⟩
  · obtain ⟨rfl, h⟩ := g i v e
    omega
  · obtain ⟨h1, _⟩ := g i v e1
    obtain ⟨h2, _⟩ := g j v e2
    omega
/-- two exchanged -/
theorem Num.swap {n : Nat} {t : List Int} (N : Num n t) {i j : Nat} {x y : Int} (hi : t[i]? = some x) (hj : t[j]? = some y) : Num n ((t.set i y).set j x) := by
  have li : i < t.length := (List.getElem?_eq_some_iff.mp hi).1
  have lj : j < t.length := (List.getElem?_eq_some_iff.mp hj).1
  have lj' : j < (t.set i y).length := by
    rw [List.length_set]
    exact lj
  -- the place in the old list that the new place k shows
  have g : ∀ (k : Nat) (v : Int), ((t.set i y).set j x)[k]? = some v → t[if k = j then i else if k = i then j else k]? = some v := fun k v e => by
    by_cases kj : k = j
    · subst kj
      rw [List.getElem?_set_self lj'] at e
      rw [if_pos rfl, hi]
      exact e
    · rw [List.getElem?_set_ne (Ne.symm kj)] at e
      rw [if_neg kj]
      by_cases ki : k = i
      · subst ki
        rw [List.getElem?_set_self li] at e
        rw [if_pos rfl, hj]
        exact e
      · rw [List.getElem?_set_ne (Ne.symm ki)] at e
        rw [if_neg ki]
        exact e
  refine ⟨by rw [List.length_set, List.length_set, N.len], fun k v e => N.bd _ v (g k v e), fun k l v e1 e2 => ?_⟩
  have q := N.inj _ _ v (g k v e1) (g l v e2)
  by_cases kj : k = j <;> by_cases lj : l = j <;> by_cases ki : k = i <;> by_cases li : l = i <;> simp only [kj, lj, ki, li, if_true, if_false] at q <;> first | omega | (simp at q; omega) | (split at q <;> omega)

theorem pts_take (f : G → Int) {gs : List G} {i : Nat} {g : G} (h : gs[i]? = some g) : ((gs.take (i + 1)).map f).sum = ((gs.take i).map f).sum + f g := by
  rw [List.take_add_one, h, List.map_append]
  exact sum_snoc _ _
end K6
namespace K6
open PySem PySem.Spec PyProof.Rows
section
variable {prog : Program} {w : World} {A : Around} {E : Value → Shared → Prop} {s : Shared}
/-- what list() asks of a backward walk's length: nothing that makes room -/
theorem rev_hint {it l : Addr} {i : Int} {R : Bool → Shared → Prop} (ati : s.heap.IsRevIter it l i) (h : R false s) : wpAny (model prog w) A (Builtin.List.listLengthHint (.ref it)) R E s := by
  have ty := ati.typeIs
  have sp : ∀ id : String, id = "list_reverseiterator.__length_hint__" → splitId id = some ("list_reverseiterator", "__length_hint__") := fun id e => by
    subst e
    decide +kernel
  have own : isSubtype (.type "list_reverseiterator") (.type "list_reverseiterator") = pure true := by
    rw [isSubtype_type]
    kernel_rfl
  obtain ⟨id, eid⟩ : ∃ id : String, id = "list_reverseiterator.__length_hint__" := ⟨_, rfl⟩
  have hint := RT.hint_lri
  rw [← eid] at hint
  unfold Builtin.List.listLengthHint
  refine wpAny_bind (wpAny_specialOf ty RT.nolen_lri (wpAny_bind (wpAny_specialOf ty hint ?_)))
  wp_delta
  rw [sp id eid, eid]
  exact wpAny_bind (wpAny_isInstance ty own (wpAny_pure h))
/-- list(r), r walking a list backwards: a new list at the next address -/
theorem list_of_rev {it l : Addr} {xs : Array Value} {Q : Value → Shared → Prop} (calm : A.handled = none) (ati : s.heap.IsRevIter it l ((xs.size : Int) - 1)) (atl : s.heap.IsList l xs) (apart : l ≠ it) (small : xs.size ≤ sizeLine)
    (done : ∀ h' tk ys c, (∀ b o, b ≠ it → s.heap.get? b = some o → h'.get? b = some o) → h'.get? s.heap.objs.size = some { cls := .type "list", dict := none, data := .seq ys c, slots := #[] } →
      ItemsOf (fun i v => xs[xs.size - 1 - i]? = some v) ys xs.size → Q (.ref s.heap.objs.size) { s with heap := h', toks := tk }) :
    wpAny (model prog w) A (call (.type "list") [.ref it]) Q E s := by
  obtain ⟨oi, goi, ri⟩ := id ati
  obtain ⟨ol, gol, rl⟩ := id atl
  have ni : s.heap.objs.size ≠ it := (Nat.ne_of_lt (Heap.lt_size goi)).symm
  have nl : s.heap.objs.size ≠ l := (Nat.ne_of_lt (Heap.lt_size gol)).symm
  refine callType_codes (Q₁ := fun o t => o = .ref s.heap.objs.size ∧ t = { s with heap := s.heap.push { cls := .type "list", data := .seq #[] } }) PySem.F.called_list (PySem.F.typeCall_list_1 _) PySem.F.entry_list_init (code_list_new _ ⟨rfl, rfl⟩) ?_
  rintro _ _ ⟨rfl, rfl⟩
  generalize eN : s.heap.objs.size = N at ni nl done ⊢
  generalize eH : s.heap.push { cls := .type "list", data := .seq #[] } = H
  have g0 : H.get? N = some { cls := .type "list", data := .seq #[] } := by
    rw [← eH, ← eN]
    exact Heap.get?_push_size _ rfl
  have k0 : ∀ b o, s.heap.get? b = some o → H.get? b = some o := fun b o e => by
    rw [← eH]
    exact Heap.get?_push_of_some _ e
  refine ⟨⟨_, g0, rfl⟩, PySem.F.args_list_init_2 _ _, ?_⟩
  unfold Builtin.«list.__init__»
  have k1 : ∀ b o, b ≠ N → s.heap.get? b = some o → (H.update N (Obj.mapSeq fun _ => #[])).get? b = some o := fun b o hb e => (Heap.get?_update_other _ _ (Ne.symm hb)).trans (k0 b o e)
  have ati1 : (H.update N (Obj.mapSeq fun _ => #[])).IsRevIter it l ((xs.size : Int) - 1) := ⟨oi, k1 it oi (Ne.symm ni) goi, ri⟩
  have ty1 : ({ s with heap := H.update N (Obj.mapSeq fun _ => #[]) } : Shared).TypeIs (.ref it) "list_reverseiterator" := ⟨oi, k1 it oi (Ne.symm ni) goi, ri.1⟩
  wp_walk using wpAny_typeOf ty1
  rw [if_neg (show ¬ (Builtin.List.listSameRef (Value.ref N) (Value.ref it) || Value.type "list_reverseiterator" == Value.type "list" || Value.type "list_reverseiterator" == Value.type "tuple") = true by simp [Builtin.List.listSameRef, ni])]
  refine wpAny_bind (wpAny_pyIter_revIter ati1 (wpAny_bind (wpAny_holding (rev_hint ati1 ?_))))
  dsimp only
  rw [if_neg (by decide)]
  -- the walk itself, as the library has it for any iterator
  have walk := (Walks.listRev (prog := prog) (w := w) (A := A.in1.in1) calm it l apart xs).toS
  have apart2 : N ∉ [it, l] := fun m => by
    rcases List.mem_cons.mp m with m | m
    · exact ni m
    · exact nl (List.mem_singleton.mp m)
  have at0 : ((xs.size : Nat) : Int) - 1 - ((0 : Nat) : Int) = (xs.size : Int) - 1 := Int.sub_zero _
  have st0 : 0 ≤ xs.size ∧ (H.update N (Obj.mapSeq fun _ => #[])).IsRevIter it l (((xs.size : Nat) : Int) - 1 - ((0 : Nat) : Int)) ∧ (H.update N (Obj.mapSeq fun _ => #[])).IsList l xs := ⟨Nat.zero_le _, by rw [at0]; exact ati1, ⟨ol, k1 l ol (Ne.symm nl) gol, rl⟩⟩
  refine wpAny_pure ⟨plainId_quiet PySem.F.plain_extend_loop _, codeAny_extend_loopS walk small N apart2 .none xs.size 0 _ #[] _ rfl (Nat.zero_le _) st0 (Heap.get?_update_self (Obj.mapSeq fun _ => #[]) g0 rfl) (ItemsOf.nil _) fun t ys c mv gN its => ?_⟩
  rw [Moved.eq_with mv]
  refine ⟨rfl, done t.heap t.toks ys c (fun b o hb e => ?_) gN its⟩
  have bN : b ≠ N := by
    rw [← eN]
    exact Nat.ne_of_lt (Heap.lt_size e)
  refine mv.heap b o (fun m => ?_) (k1 b o bN e)
  rcases List.mem_cons.mp m with m | m
  · exact bN m
  · exact hb (List.mem_singleton.mp m)
end
open L2
/-- list(reversed(e)), e's value a list: a new list of its items from behind -/
def tLstRev (K : PySem.W.Frag) (te : TE) : TE := fun σ H Q => te σ H fun x H1 => ∃ (a : Addr) (ys : List V), x = .ref a ∧ SqL K H1 a ys ∧ ∀ p, H1 p = none → Q (.ref p) (upd H1 p (.lst ys.reverse))
section
variable {X : Cx} {e : Expr} {te : TE} {pl pr pos posr : Pos}
theorem pe_listRev (calm : X.calm = true) (gl : Gl X "list") (ml : X.mg "list" = none) (gr : Gl X "reversed") (mr : X.mg "reversed" = none) (he : PE X e te)
    (one : starEach [e] X.env = [(false, eval e X.env)] := by rfl)
    (two : starEach [.Call (.Name "reversed" pr) [e] [] posr] X.env = [(false, eval (.Call (.Name "reversed" pr) [e] [] posr) X.env)] := by rfl) :
    PE X (.Call (.Name "list" pl) [.Call (.Name "reversed" pr) [e] [] posr] [] pos) (tLstRev X.K te) := by
  constructor
  intro pins s σ H Q I ask
  -- list( reversed( e ) )
  refine Call_ (ld_blt I gl ml PyProof.Rows.boot_list (callWith_type1 ?_ two rfl))
  refine args_cons (Call_ (ld_blt I gr mr PyProof.Rows.boot_reversed (callWith_type1 ?_ one rfl))) two
  refine args_cons (thn (he.run pins s σ H _ I ask) ?_) one
  rintro v t ⟨x, G, J, rel, a, ys, rfl, seq, ask⟩
  cases rel
  refine args_nil ?_
  obtain ⟨us, vals, plain, small⟩ := J.list seq
  have isl := plain.isList
  refine call_reversed_list isl (args_nil ?_)
  -- the walker stands at t's end, untracked; the new list comes behind it
  obtain ⟨oa, ga, _⟩ := id isl
  have apart : a ≠ t.heap.objs.size := Nat.ne_of_lt (Heap.lt_size ga)
  obtain ⟨w0, w1, w2, w3, w4, w5⟩ := J.fpOk (H' := G) (Nat.le_refl t.heap.objs.size) (J.hok.fresh (Nat.le_refl _))
  have J2 := J.kept (t' := t.toks) (h' := t.heap.push (revObj a ((us.toArray.size : Int) - 1))) fun b o z => Heap.get?_push_of_some _ z
  have few : us.toArray.size ≤ sizeLine := by
    rw [List.size_toArray, ← vals.length]
    exact small
  refine list_of_rev (s := { t with heap := t.heap.push (revObj a ((us.toArray.size : Int) - 1)) }) (J.ok.hd calm) ⟨_, Heap.get?_push_size _ rfl, rfl, rfl⟩ (isl.push _) apart few fun h' tk zs c keep gN its => ?_
  generalize t.heap.objs.size = k at w0 w1 w2 w3 w4 w5 keep apart
  generalize ({ t with heap := t.heap.push (revObj a ((us.toArray.size : Int) - 1)) } : Shared) = t2 at J2 keep gN
  have free : G t2.heap.objs.size = none := J2.hok.fresh (Nat.le_refl _)
  have up : ∀ {b : Addr} {o : HO}, G b = some o → upd G t2.heap.objs.size (.lst ys.reverse) b = some o := fun z => by
    rw [upd_ne (ne_of_none z free)]
    exact z
  have off : ∀ {b : Addr} {o : HO}, G b = some o → b ≠ k := fun z => ne_of_none z w0
  have all : HOk X.prog X.w (upd G t2.heap.objs.size (.lst ys.reverse)) h' := by
    intro b o z
    by_cases hb : b = t2.heap.objs.size
    · rw [hb, upd_same] at z
      cases z
      rw [hb]
      refine ⟨by rw [List.length_reverse]; exact small, zs.toList, c, RT.vals_rev vals its, ?_⟩
      rw [Array.toArray_toList]
      exact gN
    · rw [upd_ne hb] at z
      exact (J2.hok b o z).stay (fun d o' hd => keep d o' (hd.elim (fun q => by rw [q]; exact off z) off)) (fun _ => up) fun _ _ => up
  have not : ∀ {b : Addr}, b ∉ [k] → b ≠ k := fun z q => z (by rw [q]; exact List.mem_singleton.mpr rfl)
  have J3 : Inv X pins σ (upd G t2.heap.objs.size (.lst ys.reverse)) { t2 with heap := h', gens := t2.gens, drawn := t2.drawn, toks := tk } := by
    refine J2.step (ch := [k]) ?_ (fun b o _ _ z g _ => keep b o (not z) g) (fun b o _ _ z g _ => ⟨o.slots, keep b o (not z) g⟩) ?_ (fun b o z g => ⟨o, keep b o (not z) g⟩) (fun _ _ => up) (fun _ _ _ => up) ?_ ?_ all J2.bare
    · intro b hb
      rw [List.mem_singleton.mp hb]
      exact ⟨w3, w1, w4, w5⟩
    · intro b o _ g z
      rw [upd_ne (Nat.ne_of_lt (Heap.lt_size g))]
      exact z
    · intro b ps z
      exact ⟨#[], by rw [up z, Array.append_empty]⟩
    · rintro m ⟨o, es, ep, g, r⟩
      exact ⟨o, es, ep, keep _ o (Ne.symm w1) g, r⟩
  exact ⟨.ref t2.heap.objs.size, _, J3, rfl, ask _ free⟩
end
end K6
namespace K6
open PySem PySem.Spec PyProof.Rows L2
/-! ### the text -/
def topS (i : Nat) : Stmt := PySem.Challenge.pw_cupdraw_k06_whole_points_are_shared.main.body.getD i (.Pass ⟨0, 0, 0, 0⟩)
abbrev sWin : Stmt := topS 1
abbrev sPla : Stmt := topS 2
abbrev sGiv : Stmt := topS 4
abbrev sPts : Stmt := topS 5
abbrev sCel : Stmt := topS 7
abbrev sRul : Stmt := topS 8
abbrev sGam : Stmt := topS 9
abbrev sAll : Stmt := topS 10
abbrev sNum : Stmt := topS 11
abbrev sRen : Stmt := topS 12
abbrev sLaw : Stmt := topS 13
abbrev nWin : List Str := ["game"]
abbrev nGiv : List Str := ["rule", "game", "player", "winner"]
abbrev nPts : List Str := ["rule", "games", "n", "player", "game"]
abbrev nCel : List Str := ["_law_script", "_law_k"]
abbrev nRul : List Str := ["_law_cell", "_law_numbers_here"]
abbrev nGam : List Str := ["_law_script", "_law_n", "_law_games_here", "_law_cell", "_law_home", "_law_away"]
abbrev nAll : List Str := ["_law_rule_here", "_law_games_here", "_law_total", "_law_game"]
abbrev nNum : List Str := ["_law_cell", "_law_n", "_law_to", "_law_number", "_law_k", "_law_held"]
abbrev nRen : List Str := ["_law_games_here", "_law_to", "_law_found", "_law_game"]
abbrev nLaw : List Str := ["_law_script", "_law_n", "_law_rule_here", "_law_games_here", "_law_to", "_law_table", "_law_other", "_law_k"]
theorem scWin : FnScope nWin ["game"] (defScope sWin) := ⟨rfl, rfl, rfl, by decide +kernel, rfl, by decide +kernel, by decide +kernel⟩
theorem scPla : FnScope nWin ["game"] (defScope sPla) := ⟨rfl, rfl, rfl, by decide +kernel, rfl, by decide +kernel, by decide +kernel⟩
theorem scGiv : FnScope nGiv ["rule", "game", "player"] (defScope sGiv) := ⟨rfl, rfl, rfl, by decide +kernel, rfl, by decide +kernel, by decide +kernel⟩
theorem scPts : FnScope nPts ["rule", "games", "n"] (defScope sPts) := ⟨rfl, rfl, rfl, by decide +kernel, rfl, by decide +kernel, by decide +kernel⟩
theorem scCel : FnScope nCel ["_law_script", "_law_k"] (defScope sCel) := ⟨rfl, rfl, rfl, by decide +kernel, rfl, by decide +kernel, by decide +kernel⟩
theorem scRul : FnScope nRul ["_law_cell"] (defScope sRul) := ⟨rfl, rfl, rfl, by decide +kernel, rfl, by decide +kernel, by decide +kernel⟩
theorem scGam : FnScope nGam ["_law_script", "_law_n"] (defScope sGam) := ⟨rfl, rfl, rfl, by decide +kernel, rfl, by decide +kernel, by decide +kernel⟩
theorem scAll : FnScope nAll ["_law_rule_here", "_law_games_here"] (defScope sAll) := ⟨rfl, rfl, rfl, by decide +kernel, rfl, by decide +kernel, by decide +kernel⟩
theorem scNum : FnScope nNum ["_law_cell", "_law_n"] (defScope sNum) := ⟨rfl, rfl, rfl, by decide +kernel, rfl, by decide +kernel, by decide +kernel⟩
theorem scRen : FnScope nRen ["_law_games_here", "_law_to"] (defScope sRen) := ⟨rfl, rfl, rfl, by decide +kernel, rfl, by decide +kernel, by decide +kernel⟩
theorem scLaw : FnScope nLaw ["_law_script"] (defScope sLaw) := ⟨rfl, rfl, rfl, by decide +kernel, rfl, by decide +kernel, by decide +kernel⟩
/-! ### tests -/
theorem ifT {c A B : Prop} [Decidable c] (hc : c) (h : A) : if decide c = true then A else B := by
  rw [decide_eq_true hc]
  exact iteT h
theorem ifF {c A B : Prop} [Decidable c] (hc : ¬ c) (h : B) : if decide c = true then A else B := by
  rw [decide_eq_false hc]
  exact iteF h
theorem ifD {c A B : Prop} [Decidable c] (h1 : c → A) (h2 : ¬ c → B) : if decide c = true then A else B := by
  by_cases hc : c
  · exact ifT hc (h1 hc)
  · exact ifF hc (h2 hc)
theorem nifT {c A B : Prop} [Decidable c] (hc : c) (h : B) : if (!decide c) = true then A else B := by
  rw [decide_eq_true hc]
  exact iteF h
theorem nifF {c A B : Prop} [Decidable c] (hc : ¬ c) (h : A) : if (!decide c) = true then A else B := by
  rw [decide_eq_false hc]
  exact iteT h
theorem vint {i j : Int} : V.int i = V.int j ↔ i = j := ⟨fun e => V.int.inj e, fun e => by rw [e]⟩
/-! ### heaps -/
theorem Same.new {H H' : Hp} {p : Addr} {o : HO} (s : Same H H') (h : H' p = none) : Same H (upd H' p o) := fun b x e => by
  rw [upd_ne (ne_of_none (s b x e) h)]
  exact s b x e
theorem Same.over {H H' : Hp} {p : Addr} {o : HO} (s : Same H H') (h : H p = none) : Same H (upd H' p o) := fun b x e => by
  rw [upd_ne (ne_of_none e h)]
  exact s b x e
theorem Same.tup {K : PySem.W.Frag} {H H' : Hp} {a : Addr} {xs : List V} (e : Same H H') (h : H a = some (.tup xs)) : SqT K H' a xs := SqT.of (e _ _ h)
theorem line1000 {n : Nat} (h : n ≤ 1000) : n ≤ sizeLine := Nat.le_of_lt (small1000 h)
/-! ### games in a heap -/
def gv : G → List V
  | .bye p => [.int p]
  | .con h a x y => [.int h, .int a, .int x, .int y]
def rv (r : Rl) : List V := [.int r.w, .int r.d, .int r.l]
structure Gms (H : Hp) (rs : List V) (gs : List G) : Prop where
  len : rs.length = gs.length
  at_ : ∀ (i : Nat) (v : V) (g : G), rs[i]? = some v → gs[i]? = some g → ∃ r : Addr, v = .ref r ∧ H r = some (.tup (gv g))
theorem Gms.nil {H : Hp} : Gms H [] [] := ⟨rfl, fun i v g e => by simp at e⟩
theorem Gms.same {H H' : Hp} {rs : List V} {gs : List G} (m : Gms H rs gs) (s : Same H H') : Gms H' rs gs := ⟨m.len, fun i v g e1 e2 => by
  obtain ⟨r, e, h⟩ := m.at_ i v g e1 e2
  exact ⟨r, e, s _ _ h⟩⟩
/-- a list is written: the games' tuples stay -/
theorem Gms.upd {H : Hp} {rs : List V} {gs : List G} {D : Addr} {xs ys : List V} (m : Gms H rs gs) (hD : H D = some (.lst xs)) : Gms (upd H D (.lst ys)) rs gs := ⟨m.len, fun i v g e1 e2 => by
  obtain ⟨r, e, h⟩ := m.at_ i v g e1 e2
  exact ⟨r, e, by rw [upd_ne (ne_of h hD (by intro z; cases z))]; exact h⟩⟩
theorem Gms.snoc {H : Hp} {rs : List V} {gs : List G} {r : Addr} {g : G} (m : Gms H rs gs) (h : H r = some (.tup (gv g))) : Gms H (rs ++ [.ref r]) (gs ++ [g]) := by
  refine ⟨by rw [List.length_append, List.length_append, m.len]; rfl, fun i v u e1 e2 => ?_⟩
  by_cases hi : i < rs.length
  · rw [List.getElem?_append_left hi] at e1
    rw [List.getElem?_append_left (by rw [← m.len]; exact hi)] at e2
    exact m.at_ i v u e1 e2
  · have h1 : rs.length ≤ i := Nat.le_of_not_lt hi
    rw [List.getElem?_append_right h1] at e1
    rw [List.getElem?_append_right (by rw [← m.len]; exact h1), ← m.len] at e2
    cases q : i - rs.length with
    | zero =>
      rw [q] at e1 e2
      cases e1
      cases e2
      exact ⟨r, rfl, h⟩
    | succ k =>
      rw [q] at e1
      simp at e1
theorem Gms.get {H : Hp} {rs : List V} {gs : List G} {i : Nat} {v : V} (m : Gms H rs gs) (e : rs[i]? = some v) : ∃ (r : Addr) (g : G), v = .ref r ∧ gs[i]? = some g ∧ H r = some (.tup (gv g)) := by
  have hi : i < gs.length := by
    rw [← m.len]
    exact (List.getElem?_eq_some_iff.mp e).1
  have e2 : gs[i]? = some gs[i] := List.getElem?_eq_getElem hi
  obtain ⟨r, q, h⟩ := m.at_ i v _ e e2
  exact ⟨r, _, q, e2, h⟩
theorem Gms.rev {H : Hp} {rs : List V} {gs : List G} (m : Gms H rs gs) : Gms H rs.reverse gs.reverse := by
  refine ⟨by rw [List.length_reverse, List.length_reverse, m.len], fun i v g e1 e2 => ?_⟩
  have hi : i < rs.length := by
    have q := (List.getElem?_eq_some_iff.mp e1).1
    rw [List.length_reverse] at q
    exact q
  rw [List.getElem?_reverse hi] at e1
  rw [List.getElem?_reverse (by rw [← m.len]; exact hi), ← m.len] at e2
  exact m.at_ _ v g e1 e2
theorem int_at {ns : List Int} {i : Nat} {v : V} (e : (ns.map V.int)[i]? = some v) : ∃ n : Int, ns[i]? = some n ∧ v = .int n := by
  rw [List.getElem?_map] at e
  cases q : ns[i]? with
  | none =>
    rw [q] at e
    cases e
  | some n =>
    rw [q] at e
    exact ⟨n, rfl, (Option.some.inj e).symm⟩
theorem at_int {ns : List Int} {i : Nat} {n : Int} (e : ns[i]? = some n) : (ns.map V.int)[i]? = some (.int n) := by
  rw [List.getElem?_map, e]
  rfl
/-! ### the promises -/
def spWin : Sp := fun vs H Q _ => ∃ (t : Addr) (h a x y : Int), vs = [.ref t] ∧ H t = some (.tup (gv (.con h a x y))) ∧ Q (if x = y then .non else .int (if x < y then a else h)) H
def pl : G → List Int
  | .bye p => [p]
  | .con h a _ _ => [h, a]
def spPla : Sp := fun vs H Q _ => ∃ (t : Addr) (g : G), vs = [.ref t] ∧ H t = some (.tup (gv g)) ∧ ∀ H' p, Same H H' → H p = none → H' p = some (.lst ((pl g).map V.int)) → Q (.ref p) H'
def spGiv : Sp := fun vs H Q _ => ∃ (rt t : Addr) (r : Rl) (g : G) (p : Int), vs = [.ref rt, .ref t, .int p] ∧ H rt = some (.tup (rv r)) ∧ H t = some (.tup (gv g)) ∧ ∀ H', Same H H' → Q (.int (gives r g p)) H'
def spPts : Sp := fun vs H Q _ => ∃ (rt gl : Addr) (r : Rl) (rs : List V) (gs : List G) (n : Nat), vs = [.ref rt, .ref gl, .int (n : Int)] ∧ H rt = some (.tup (rv r)) ∧ H gl = some (.lst rs) ∧ Gms H rs gs ∧ gs.length ≤ 1000 ∧ n ≤ 1000 ∧
  ∀ H' p, Same H H' → H p = none → H' p = some (.lst ((table r gs n).map V.int)) → Q (.ref p) H'
def spCel (K : PySem.W.Frag) : Sp := fun vs H Q _ => ∃ (a : Addr) (ns : List Int) (k : Nat), vs = [.ref a, .int (k : Int)] ∧ SqL K H a (ns.map V.int) ∧ ∀ c : Int, Q (.int c) H
def spRul : Sp := fun vs H Q _ => ∃ c : Int, vs = [.int c] ∧ ∀ H' p r, Same H H' → H' p = some (.tup (rv r)) → Q (.ref p) H'
def spGam (K : PySem.W.Frag) : Sp := fun vs H Q _ => ∃ (a : Addr) (ns : List Int) (n : Nat), vs = [.ref a, .int (n : Int)] ∧ SqL K H a (ns.map V.int) ∧ ns.length ≤ 63 ∧ 2 ≤ n ∧ n ≤ 16 ∧
  ∀ H' p rs gs, Same H H' → H' p = some (.lst rs) → Gms H' rs gs → (∀ g, g ∈ gs → GOk n g) → gs.length ≤ 63 → Q (.ref p) H'
def spAll : Sp := fun vs H Q _ => ∃ (rt gl : Addr) (r : Rl) (rs : List V) (gs : List G), vs = [.ref rt, .ref gl] ∧ H rt = some (.tup (rv r)) ∧ H gl = some (.lst rs) ∧ Gms H rs gs ∧ Q (.int (total r gs)) H
def spNum : Sp := fun vs H Q _ => ∃ (c : Int) (n : Nat), vs = [.int c, .int (n : Int)] ∧ 2 ≤ n ∧ n ≤ 16 ∧ ∀ H' p t, Same H H' → H' p = some (.lst (t.map V.int)) → Num n t → Q (.ref p) H'
def spRen : Sp := fun vs H Q _ => ∃ (gl tl : Addr) (rs : List V) (gs : List G) (t : List Int) (n : Nat), vs = [.ref gl, .ref tl] ∧ H gl = some (.lst rs) ∧ Gms H rs gs ∧ gs.length ≤ 1000 ∧ H tl = some (.lst (t.map V.int)) ∧ Num n t ∧ (∀ g, g ∈ gs → GOk n g) ∧
  ∀ H' p rs', Same H H' → H' p = some (.lst rs') → Gms H' rs' (renamed t gs) → Q (.ref p) H'
def spLaw (K : PySem.W.Frag) : Sp := fun vs H Q _ => ∃ (a : Addr) (ns : List Int), vs = [.ref a] ∧ SqL K H a (ns.map V.int) ∧ ns.length ≤ 63 ∧ ∀ H', Q (.bl true) H'
end K6
namespace K6
open PySem PySem.Spec PyProof.Rows L2
section
variable {P : Program} {w : World} {K : PySem.W.Frag} {mg : Str → Option Value} {base : Heap}
theorem ok_win {f : Addr} {fd : FuncData} {k : Nat} (F : Fun K "winner_of" "winner_of" sWin f fd) (ml : mg "len" = none) (mi : mg "int" = none) : FnOk P w K mg base CX0 (k + 1) f fd ["game"] spWin := by
  refine F.ok scWin (fun vs H Q E h => ?_) (fun cdv A outer s H vs Q E hr h => ?_)
  · obtain ⟨t, h, a, x, y, rfl, _⟩ := h
    rfl
  · obtain ⟨t, h, a, x, y, rfl, ht, q⟩ := h
    have hT : SqT K H t (gv (.con h a x y)) := SqT.of ht
    refine ⟨_, pss_cons (ps_if (PW.pt (pw_or (pt_cmpR op_eq (pe_callB call_len_seq (by rfl) ml PySem.boot_len (pa_cons (pv 0) pa_nil)) pe_int (nomark _))
          (pw_or1 (pt_cmpR op_eq (pe_ix ix_tup (pv 0) pe_int (fun _ _ => rfl)) (pe_ix ix_tup (pv 0) pe_int (fun _ _ => rfl)) (nomark _)))))
        (pss_one (ps_ret pe_non)) pss_nil)
      (pss_one (ps_ret (pe_ix ix_tup (pv 0) (pe_callTy call_int1 (by rfl) mi PyProof.Rows.boot_int (pa_cons (pe_cmpR op_gt (pe_ix ix_tup (pv 0) pe_int (fun _ _ => rfl)) (pe_ix ix_tup (pv 0) pe_int (fun _ _ => rfl)) (nomark _)) pa_nil)) (fun _ _ => rfl)))), ?_⟩
    -- len(game) == 1
    refine ⟨.ref t, rfl, t, _, rfl, .inr hT, rfl, _, rfl, ifF (fun e => ?_) ?_⟩
    · have e1 : (((gv (.con h a x y)).length : Nat) : Int) = 1 := vint.mp e
      revert e1
      show ¬ (4 : Int) = 1
      decide
    -- game[2] == game[3]
    refine ⟨.ref t, rfl, t, _, 2, .int x, rfl, rfl, hT, atI_nat (j := 2) rfl, .ref t, rfl, t, _, 3, .int y, rfl, rfl, hT, atI_nat (j := 3) rfl, rfl, _, rfl, ifD (fun e => ?_) (fun e => ?_)⟩
    · rw [if_pos (vint.mp e)] at q
      exact q
    · rw [if_neg (fun z => e (vint.mpr z))] at q
      refine ⟨.ref t, rfl, .ref t, rfl, t, _, 3, .int y, rfl, rfl, hT, atI_nat (j := 3) rfl, .ref t, rfl, t, _, 2, .int x, rfl, rfl, hT, atI_nat (j := 2) rfl, y, x, rfl, rfl, .inr ⟨_, rfl, ?_⟩⟩
      by_cases hlt : x < y
      · rw [if_pos hlt] at q
        refine ⟨t, _, 1, .int a, rfl, ?_, hT, atI_nat (j := 1) rfl, q⟩
        rw [decide_eq_true hlt]
        rfl
      · rw [if_neg hlt] at q
        refine ⟨t, _, 0, .int h, rfl, ?_, hT, atI_nat (j := 0) rfl, q⟩
        rw [decide_eq_false hlt]
        rfl
theorem ok_pla {f : Addr} {fd : FuncData} {k : Nat} (F : Fun K "players_of" "players_of" sPla f fd) (ml : mg "list" = none) : FnOk P w K mg base CX0 (k + 1) f fd ["game"] spPla := by
  refine F.ok scPla (fun vs H Q E h => ?_) (fun cdv A outer s H vs Q E hr h => ?_)
  · obtain ⟨t, g, rfl, _⟩ := h
    rfl
  · obtain ⟨t, g, rfl, ht, q⟩ := h
    have hT : SqT K H t (gv g) := SqT.of ht
    refine ⟨_, pss_one (ps_ret (pe_callTy call_list_of (by rfl) ml PyProof.Rows.boot_list (pa_cons (pe_slice sl_tupA (pv 0) po_none (po_some pe_int)) pa_nil))), ?_⟩
    refine ⟨.ref t, rfl, 2, rfl, t, gv g, rfl, hT, fun hw => ?_, fun hw p np => ?_⟩
    · -- the whole tuple: a bye
      cases g with
      | bye b => exact ⟨t, _, rfl, .inr hT, fun l nl => q _ l (Same.new (Same.refl H) nl) nl upd_same⟩
      | con h a x y => exact absurd hw.2 (show ¬ HT.sIx 4 4 (some 2) = 4 by decide)
    · cases g with
      | bye b => exact absurd ⟨rfl, show HT.sIx 1 1 (some 2) = 1 by decide⟩ hw
      | con h a x y =>
        refine ⟨p, _, rfl, .inr (SqT.of upd_same), fun l nl => ?_⟩
        have s1 : Same H (upd H p (.tup (cutV (gv (.con h a x y)) none (some 2)))) := Same.new (Same.refl H) np
        exact q _ l (Same.new s1 nl) (s1.free nl) upd_same
theorem inV_bye {p q : Int} : inV (.int p) [V.int q] = decide (p = q) := by
  show (q == p || false) = decide (p = q)
  rw [Bool.or_false, Bool.beq_eq_decide_eq]
  exact decide_eq_decide.mpr ⟨Eq.symm, Eq.symm⟩
theorem inV_con {p h a : Int} : inV (.int p) [V.int h, V.int a] = decide (p = h ∨ p = a) := by
  show (h == p || (a == p || false)) = decide (p = h ∨ p = a)
  rw [Bool.or_false, Bool.beq_eq_decide_eq, Bool.beq_eq_decide_eq, Bool.decide_or]
  rw [decide_eq_decide.mpr (⟨Eq.symm, Eq.symm⟩ : h = p ↔ p = h), decide_eq_decide.mpr (⟨Eq.symm, Eq.symm⟩ : a = p ↔ p = a)]
theorem ok_giv {f fW fP : Addr} {fd fdW fdP : FuncData} (F : Fun K "gives" "gives" sGiv f fd) (FW : Fun K "winner_of" "winner_of" sWin fW fdW) (FP : Fun K "players_of" "players_of" sPla fP fdP)
    (bW : Binds K fdW ["game"] []) (bP : Binds K fdP ["game"] []) (gW : mg "winner_of" = some (.ref fW)) (gP : mg "players_of" = some (.ref fP)) (mlen : mg "len" = none) (mint : mg "int" = none) (mlist : mg "list" = none) :
    FnOk P w K mg base CX0 2 f fd ["rule", "game", "player"] spGiv := by
  have GW : FnOk P w K mg base CX0 1 fW fdW ["game"] spWin := ok_win FW mlen mint
  have GP : FnOk P w K mg base CX0 1 fP fdP ["game"] spPla := ok_pla FP mlist
  refine F.ok scGiv (fun vs H Q E h => ?_) (fun cdv A outer s H vs Q E hr h => ?_)
  · obtain ⟨rt, t, r, g, p, rfl, _⟩ := h
    rfl
  · obtain ⟨rt, t, r, g, p, rfl, hr0, ht0, q⟩ := h
    refine ⟨_, pss_cons (ps_if (pt_cmpR op_notIn_seq (pv 2) (pe_call GP hr (by rfl) gP FP.kp bP .nil pass0 (pa_cons (pv 1) pa_nil)) (by rfl)) (pss_one (ps_ret pe_int)) pss_nil)
      (pss_cons (ps_if (pt_cmpR op_eq (pe_callB call_len_seq (by rfl) mlen PySem.boot_len (pa_cons (pv 1) pa_nil)) pe_int (nomark _)) (pss_one (ps_ret (pe_ix ix_tup (pv 0) pe_int (fun _ _ => rfl)))) pss_nil)
      (pss_cons (ps_set (i := 3) scGiv.nd rfl (.inl rfl) (pe_call GW hr (by rfl) gW FW.kp bW .nil pass0 (pa_cons (pv 1) pa_nil)))
      (pss_cons (ps_if (pt_cmpR op_isN (pv 3) pe_non (nomark _)) (pss_one (ps_ret (pe_ix ix_tup (pv 0) pe_int (fun _ _ => rfl)))) pss_nil)
      (pss_one (ps_ret (pe_ix ix_tup (pv 0) (pe_op op_mul pe_int (pe_callTy call_int1 (by rfl) mint PyProof.Rows.boot_int (pa_cons (pe_cmpR op_ne (pv 3) (pv 2) (nomark _)) pa_nil))) (fun _ _ => rfl))))))), ?_⟩
    -- player not in players_of(game)
    refine ⟨.int p, rfl, .ref t, rfl, t, g, rfl, ht0, fun H1 l sm nl el => ?_⟩
    have hR : SqT K H1 rt (rv r) := Same.tup sm hr0
    have hT : SqT K H1 t (gv g) := Same.tup sm ht0
    have q1 := q H1 sm
    refine ⟨l, _, rfl, .inl (SqL.of el), rfl, by cases g <;> rfl, ?_⟩
    cases g with
    | bye b =>
      refine ⟨_, rfl, ?_⟩
      show if (!inV (.int p) [V.int b]) = true then _ else _
      rw [inV_bye]
      change Q (.int (if p = b then r.w else 0)) H1 at q1
      by_cases e : p = b
      · rw [if_pos e] at q1
        refine nifT e ?_
        exact ⟨.ref t, rfl, t, _, rfl, .inr hT, rfl, _, rfl, ifT rfl ⟨.ref rt, rfl, rt, _, 0, .int r.w, rfl, rfl, hR, atI_nat (j := 0) rfl, q1⟩⟩
      · rw [if_neg e] at q1
        exact nifF e q1
    | con h a x y =>
      refine ⟨_, rfl, ?_⟩
      show if (!inV (.int p) [V.int h, V.int a]) = true then _ else _
      rw [inV_con]
      change Q (.int (if p = h ∨ p = a then (if x = y then r.d else if p = (if x < y then a else h) then r.w else r.l) else 0)) H1 at q1
      by_cases e : p = h ∨ p = a
      · rw [if_pos e] at q1
        refine nifT e ?_
        refine ⟨.ref t, rfl, t, _, rfl, .inr hT, rfl, _, rfl, ifF (fun e => ?_) ?_⟩
        · have e1 : (((gv (.con h a x y)).length : Nat) : Int) = 1 := vint.mp e
          revert e1
          show ¬ (4 : Int) = 1
          decide
        refine ⟨.ref t, rfl, t, h, a, x, y, rfl, sm _ _ ht0, ?_⟩
        by_cases hxy : x = y
        · rw [if_pos hxy] at q1
          rw [if_pos hxy]
          exact ⟨_, rfl, rfl, _, rfl, ifT rfl ⟨.ref rt, rfl, rt, _, 1, .int r.d, rfl, rfl, hR, atI_nat (j := 1) rfl, q1⟩⟩
        · rw [if_neg hxy] at q1
          rw [if_neg hxy]
          generalize (if x < y then a else h) = z at q1
          refine ⟨_, rfl, rfl, _, rfl, ifF (fun e => by cases e) ⟨.ref rt, rfl, _, rfl, _, rfl, rfl, .inr ⟨_, rfl, 2, _, rfl, rfl, .inl ⟨by decide, by decide⟩, ?_⟩⟩⟩
          by_cases hz : p = z
          · rw [if_pos hz] at q1
            refine ⟨rt, _, 0, .int r.w, rfl, ?_, hR, atI_nat (j := 0) rfl, q1⟩
            rw [decide_eq_true (show V.int z = V.int p by rw [hz])]
            rfl
          · rw [if_neg hz] at q1
            refine ⟨rt, _, 2, .int r.l, rfl, ?_, hR, atI_nat (j := 2) rfl, q1⟩
            rw [decide_eq_false (show ¬ V.int z = V.int p from fun q => hz (vint.mp q).symm)]
            rfl
      · rw [if_neg e] at q1
        exact nifF e q1
end
end K6
namespace K6
open PySem PySem.Spec PyProof.Rows L2
/-- the outer comprehension's block, and the inner one's -/
def scOut : Scope := match defBody sPts with
  | [.Return (some (.ListComp _ _ sc _)) _] => sc
  | _ => { kind := .function, names := [], isGenerator := false, isCoroutine := false }
theorem table_take (r : Rl) (gs : List G) {n i : Nat} (h : i < n) : (table r gs n).take (i + 1) = (table r gs n).take i ++ [pts r gs (i : Int)] := by
  rw [List.take_add_one, table_get r gs h]
  rfl
theorem map_take {α β : Type} (f : α → β) {xs : List α} {i : Nat} {x : α} (h : xs[i]? = some x) : (xs.map f).take (i + 1) = (xs.map f).take i ++ [f x] := by
  rw [List.take_add_one, List.getElem?_map, h]
  rfl
theorem yes {σ : L2.St} {H : Hp} {A B : Hp → Prop} (h : A H) : tYes σ H fun b H3 => if b = true then A H3 else B H3 := iteT (B := B H) h
section
variable {P : Program} {w : World} {K : PySem.W.Frag} {mg : Str → Option Value} {base : Heap}
theorem ok_pts {f fG : Addr} {fd fdG : FuncData} (F : Fun K "points_of" "points_of" sPts f fd) (FG : Fun K "gives" "gives" sGiv fG fdG) (bG : Binds K fdG ["rule", "game", "player"] []) (gG : mg "gives" = some (.ref fG))
    (GG : FnOk P w K mg base CX0 2 fG fdG ["rule", "game", "player"] spGiv) (msum : mg "sum" = none) (mran : mg "range" = none) :
    FnOk P w K mg base CX0 3 f fd ["rule", "games", "n"] spPts := by
  refine F.ok scPts (fun vs H Q E h => ?_) (fun cdv A outer s H vs Q E hr h => ?_)
  · obtain ⟨rt, gl, r, rs, gs, n, rfl, _⟩ := h
    rfl
  · obtain ⟨rt, gl, r, rs, gs, n, rfl, hrt, hgl, hgs, hlen, hn, q⟩ := h
    refine ⟨_, pss_one (ps_ret (pe_lc (own := [("player", 3)]) (g := gName 3) (tt := tYes) rfl scPts.nd (pi_range1 (by rfl) mran (pa_cons (pv 2) pa_nil)) (blkOk_by (N := nPts) (sc := defScope sPts) (by decide +kernel))
      (fun _ _ _ _ _ => pg_name (i := 3) scPts.nd rfl (Or.inr rfl)) (fun _ _ _ _ _ => pts_nil)
      (fun _ _ _ _ _ => pe_callB (r := rSum K) (cr_sum rfl) (by rfl) msum PyProof.Rows.boot_sum (pa_cons
        (by exact pe_lc (own := [("game", 4)]) (g := gName 4) (tt := tYes) rfl scPts.nd (show PI _ _ _ (iList K (tVar 1)) from pi_list (pv 1)) (blkOk_by (N := nPts) (sc := relS scOut (defScope sPts)) (by decide +kernel)) (fun _ _ _ _ _ => pg_name (i := 4) scPts.nd rfl (Or.inl rfl)) (fun _ _ _ _ _ => pts_nil) (fun _ _ _ _ _ => pe_call GG hr (by rfl) gG FG.kp bG .nil pass0 (pa_cons (pv 0) (pa_cons (pv 4) (pa_cons (pv 3) pa_nil))))) 
        pa_nil)))), ?_⟩
    refine ⟨.int (n : Int), rfl, (n : Int), rfl, by omega, by omega, fun D nD => ?_⟩
    refine lc_range (lo := 0) (n := n) (fun i H' => Same H H' ∧ H' D = some (.lst (((table r gs n).take i).map V.int))) ⟨Same.new (Same.refl H) nD, upd_same⟩ (fun i H1 hi hP => ?_) (fun H' hP => ?_)
    · obtain ⟨sm, eD⟩ := hP
      refine ⟨rfl, yes ?_⟩
      -- [gives(rule, game, player) for game in games]
      refine ⟨.ref gl, rfl, gl, rfl, ⟨_, SqL.of (sm _ _ hgl)⟩, fun D2 nD2 => ?_⟩
      refine lc_list (K := K) (a := gl) (xs := rs) (fun j H' => Same H1 H' ∧ H' D2 = some (.lst (((gs.map fun g => gives r g (i : Int)).take j).map V.int))) ⟨Same.new (Same.refl H1) nD2, upd_same⟩ (fun j H' _ hP => SqL.of (hP.1 _ _ (sm _ _ hgl))) (fun j x H2 hx hP => ?_) (fun H2 hP => ?_)
      · obtain ⟨sm2, eD2⟩ := hP
        obtain ⟨t, g, rfl, hg, ht⟩ := hgs.get hx
        refine ⟨rfl, yes ?_⟩
        refine ⟨.ref rt, rfl, .ref t, rfl, .int (0 + (i : Int)), rfl, rt, t, r, g, 0 + (i : Int), rfl, sm2 _ _ (sm _ _ hrt), sm2 _ _ (sm _ _ ht), fun H3 sm3 => ?_⟩
        refine ⟨_, sm3 _ _ eD2, ?_, Same.over (sm2.trans sm3) nD2, ?_⟩
        · refine small1000 ?_
          rw [List.length_map, List.length_take, List.length_map]
          omega
        · rw [upd_same, map_take _ hg, List.map_append, Int.zero_add]
          rfl
      · obtain ⟨sm2, eD2⟩ := hP
        have e0 : (gs.map fun g => gives r g (i : Int)).take rs.length = gs.map fun g => gives r g (i : Int) := List.take_of_length_le (by
          rw [List.length_map, hgs.len]
          exact Nat.le_refl _)
        rw [e0] at eD2
        refine ⟨D2, _, rfl, SqL.of eD2, ?_⟩
        refine ⟨_, sm2 _ _ eD, ?_, Same.over (sm.trans sm2) nD, ?_⟩
        · refine small1000 ?_
          rw [List.length_map, List.length_take, table_length]
          omega
        · rw [upd_same, table_take r gs hi, List.map_append]
          rfl
    · obtain ⟨sm, eD⟩ := hP
      have e0 : (table r gs n).take n = table r gs n := List.take_of_length_le (by
        rw [table_length]
        exact Nat.le_refl _)
      rw [e0] at eD
      exact q H' D sm nD eD
end
end K6
namespace K6
open PySem PySem.Spec PyProof.Rows L2
section
variable {P : Program} {w : World} {K : PySem.W.Frag} {mg : Str → Option Value} {base : Heap}
theorem ok_cel {f : Addr} {fd : FuncData} {k : Nat} (F : Fun K "_law_cell_at" "_law_cell_at" sCel f fd) (ml : mg "len" = none) : FnOk P w K mg base CX0 (k + 1) f fd ["_law_script", "_law_k"] (spCel K) := by
  refine F.ok scCel (fun vs H Q E h => ?_) (fun cdv A outer s H vs Q E hr h => ?_)
  · obtain ⟨a, ns, j, rfl, _⟩ := h
    rfl
  · obtain ⟨a, ns, j, rfl, hS, q⟩ := h
    refine ⟨_, pss_cons (ps_if (pt_cmpR op_lt (pv 1) (pe_callB call_len_seq (by rfl) ml PySem.boot_len (pa_cons (pv 0) pa_nil)) (nomark _)) (pss_one (ps_ret (pe_ix ix_list (pv 0) (pv 1) (fun _ _ => rfl)))) pss_nil)
      (pss_one (ps_ret pe_int)), ?_⟩
    refine ⟨.int (j : Int), rfl, .ref a, rfl, a, _, rfl, .inl hS, _, _, rfl, rfl, _, rfl, ifD (fun e => ?_) (fun _ => q 0)⟩
    have hj : j < ns.length := by
      rw [List.length_map] at e
      omega
    exact ⟨.ref a, rfl, .int (j : Int), rfl, a, _, (j : Int), .int ns[j], rfl, rfl, hS, atI_nat (at_int (List.getElem?_eq_getElem hj)), q _⟩
theorem ok_rul {f : Addr} {fd : FuncData} {k : Nat} (F : Fun K "_law_rule" "_law_rule" sRul f fd) (ms : mg "sorted" = none) : FnOk P w K mg base CX0 (k + 1) f fd ["_law_cell"] spRul := by
  refine F.ok scRul (fun vs H Q E h => ?_) (fun cdv A outer s H vs Q E hr h => ?_)
  · obtain ⟨c, rfl, _⟩ := h
    rfl
  · obtain ⟨c, rfl, q⟩ := h
    refine ⟨_, pss_cons (ps_set (i := 1) scRul.nd rfl (.inl rfl) (pe_callB cr_sorted (by rfl) ms PyProof.Rows.boot_sorted (pa_cons (pe_lst (pa_cons (pe_op op_sub (pe_op op_mod (pv 0) pe_int) pe_int)
          (pa_cons (pe_op op_sub (pe_op op_mod (pe_op op_fdiv (pv 0) pe_int) pe_int) pe_int) (pa_cons (pe_op op_sub (pe_op op_mod (pe_op op_fdiv (pv 0) pe_int) pe_int) pe_int) pa_nil)))) pa_nil)))
      (pss_cons (ps_if (PW.pt (pw_and (pt_cmpR op_eq (pe_ix ix_list (pv 1) pe_int (fun _ _ => rfl)) (pe_ix ix_list (pv 1) pe_int (fun _ _ => rfl)) (nomark _)) (pw_and1 (pt_cmpR op_gt (pe_ix ix_list (pv 1) pe_int (fun _ _ => rfl)) pe_int (nomark _)))))
          (pss_one (ps_ret (pe_tup (pa_cons (pe_ix ix_list (pv 1) pe_int (fun _ _ => rfl)) (pa_cons (pe_ix ix_list (pv 1) pe_int (fun _ _ => rfl)) (pa_cons pe_int pa_nil)))))) pss_nil)
      (pss_cons (ps_if (pt_cmpR op_eq (pe_ix ix_list (pv 1) pe_int (fun _ _ => rfl)) (pe_ix ix_list (pv 1) pe_int (fun _ _ => rfl)) (nomark _))
          (pss_one (ps_ret (pe_tup (pa_cons pe_int (pa_cons (pe_ix ix_list (pv 1) pe_int (fun _ _ => rfl)) (pa_cons (pe_ix ix_list (pv 1) pe_int (fun _ _ => rfl)) pa_nil)))))) pss_nil)
      (pss_one (ps_ret (pe_tup (pa_cons (pe_ix ix_list (pv 1) pe_int (fun _ _ => rfl)) (pa_cons (pe_ix ix_list (pv 1) pe_int (fun _ _ => rfl)) (pa_cons (pe_ix ix_list (pv 1) pe_int (fun _ _ => rfl)) pa_nil)))))))), ?_⟩
    -- sorted([..])
    refine ⟨.int c, rfl, c, 2000001, rfl, rfl, (by show (0 : Int) < 2000001; decide), _, 1000000, rfl, rfl,
      .int c, rfl, c, 17, rfl, rfl, ⟨by decide, by decide⟩, _, 2000001, rfl, rfl, (by show (0 : Int) < 2000001; decide), _, 1000000, rfl, rfl,
      .int c, rfl, c, 293, rfl, rfl, ⟨by decide, by decide⟩, _, 2000001, rfl, rfl, (by show (0 : Int) < 2000001; decide), _, 1000000, rfl, rfl, ?_, fun l nl => ?_⟩
    · exact line1000 (by show 3 ≤ 1000; decide)
    have s1 := Same.new (o := .lst [V.int (c % 2000001 - 1000000), V.int (c / 17 % 2000001 - 1000000), V.int (c / 293 % 2000001 - 1000000)]) (Same.refl H) nl
    refine ⟨l, [c % 2000001 - 1000000, c / 17 % 2000001 - 1000000, c / 293 % 2000001 - 1000000], rfl, SqL.of upd_same, by show 3 < 64; decide, fun ns p hp _ np => ?_⟩
    have s2 := Same.new (o := .lst (ns.map V.int)) s1 np
    have hl := hp.length_eq
    obtain ⟨x, y, z, rfl⟩ : ∃ x y z, ns = [x, y, z] := by
      match ns, hl with
      | [x, y, z], _ => exact ⟨x, y, z, rfl⟩
    generalize hH1 : upd H l (.lst [V.int (c % 2000001 - 1000000), V.int (c / 17 % 2000001 - 1000000), V.int (c / 293 % 2000001 - 1000000)]) = H1 at np s1 s2
    have hN : SqL K (upd H1 p (.lst ([x, y, z].map V.int))) p [.int x, .int y, .int z] := SqL.of upd_same
    have t0 : atI [V.int x, V.int y, V.int z] 0 = some (.int x) := atI_nat (j := 0) rfl
    have t1 : atI [V.int x, V.int y, V.int z] 1 = some (.int y) := atI_nat (j := 1) rfl
    have t2 : atI [V.int x, V.int y, V.int z] 2 = some (.int z) := atI_nat (j := 2) rfl
    have fin : ∀ r : Rl, ∀ a, upd H1 p (.lst ([x, y, z].map V.int)) a = none → Q (.ref a) (upd (upd H1 p (.lst ([x, y, z].map V.int))) a (.tup (rv r))) := fun r a na => q _ a r (Same.new s2 na) upd_same
    refine ⟨.ref p, rfl, p, _, 0, _, rfl, rfl, hN, t0, .ref p, rfl, p, _, 2, _, rfl, rfl, hN, t2, rfl, _, rfl, ifD (fun _ => ?_) (fun e => ?_)⟩
    · refine ⟨.ref p, rfl, p, _, 0, _, rfl, rfl, hN, t0, _, _, rfl, rfl, _, rfl, ifD (fun _ => ?_) (fun _ => ?_)⟩
      · exact ⟨.ref p, rfl, p, _, 0, _, rfl, rfl, hN, t0, .ref p, rfl, p, _, 0, _, rfl, rfl, hN, t0, line1000 (by show 3 ≤ 1000; decide), fin ⟨x, x, 0⟩⟩
      · refine ⟨.ref p, rfl, p, _, 0, _, rfl, rfl, hN, t0, .ref p, rfl, p, _, 2, _, rfl, rfl, hN, t2, rfl, _, rfl, ifD (fun _ => ?_) (fun _ => ?_)⟩
        · exact ⟨.ref p, rfl, p, _, 0, _, rfl, rfl, hN, t0, .ref p, rfl, p, _, 0, _, rfl, rfl, hN, t0, line1000 (by show 3 ≤ 1000; decide), fin ⟨1, x, x⟩⟩
        · exact ⟨.ref p, rfl, p, _, 2, _, rfl, rfl, hN, t2, .ref p, rfl, p, _, 1, _, rfl, rfl, hN, t1, .ref p, rfl, p, _, 0, _, rfl, rfl, hN, t0, line1000 (by show 3 ≤ 1000; decide), fin ⟨z, y, x⟩⟩
    · refine ⟨.ref p, rfl, p, _, 0, _, rfl, rfl, hN, t0, .ref p, rfl, p, _, 2, _, rfl, rfl, hN, t2, rfl, _, rfl, ifD (fun _ => ?_) (fun _ => ?_)⟩
      · exact ⟨.ref p, rfl, p, _, 0, _, rfl, rfl, hN, t0, .ref p, rfl, p, _, 0, _, rfl, rfl, hN, t0, line1000 (by show 3 ≤ 1000; decide), fin ⟨1, x, x⟩⟩
      · exact ⟨.ref p, rfl, p, _, 2, _, rfl, rfl, hN, t2, .ref p, rfl, p, _, 1, _, rfl, rfl, hN, t1, .ref p, rfl, p, _, 0, _, rfl, rfl, hN, t0, line1000 (by show 3 ≤ 1000; decide), fin ⟨z, y, x⟩⟩
end
end K6
namespace K6
open PySem PySem.Spec PyProof.Rows L2
section
variable {P : Program} {w : World} {K : PySem.W.Frag} {mg : Str → Option Value} {base : Heap}
theorem ok_all {f : Addr} {fd : FuncData} {k : Nat} (F : Fun K "_law_all" "_law_all" sAll f fd) (ml : mg "len" = none) : FnOk P w K mg base CX0 (k + 1) f fd ["_law_rule_here", "_law_games_here"] spAll := by
  refine F.ok scAll (fun vs H Q E h => ?_) (fun cdv A outer s H vs Q E hr h => ?_)
  · obtain ⟨rt, gl, r, rs, gs, rfl, _⟩ := h
    rfl
  · obtain ⟨rt, gl, r, rs, gs, rfl, hrt, hgl, hgs, q⟩ := h
    have hR : SqT K H rt (rv r) := SqT.of hrt
    refine ⟨_, pss_cons (ps_set (i := 2) scAll.nd rfl (.inl rfl) pe_int)
      (pss_cons (ps_for PassesOwn.never rfl (pi_list (pv 1)) (pg_name (i := 3) scAll.nd rfl (.inl rfl))
        (pss_one (ps_if (pt_cmpR op_eq (pe_callB call_len_seq (by rfl) ml PySem.boot_len (pa_cons (pv 3) pa_nil)) pe_int (nomark _))
          (pss_one (ps_set (i := 2) scAll.nd rfl (.inl rfl) (pe_op op_add (pv 2) (pe_ix ix_tup (pv 0) pe_int (fun _ _ => rfl)))))
          (pss_one (ps_if (pt_cmpR op_eq (pe_ix ix_tup (pv 3) pe_int (fun _ _ => rfl)) (pe_ix ix_tup (pv 3) pe_int (fun _ _ => rfl)) (nomark _))
            (pss_one (ps_set (i := 2) scAll.nd rfl (.inl rfl) (pe_op op_add (pv 2) (pe_op op_mul pe_int (pe_ix ix_tup (pv 0) pe_int (fun _ _ => rfl))))))
            (pss_one (ps_set (i := 2) scAll.nd rfl (.inl rfl) (pe_op op_add (pe_op op_add (pv 2) (pe_ix ix_tup (pv 0) pe_int (fun _ _ => rfl))) (pe_ix ix_tup (pv 0) pe_int (fun _ _ => rfl))))))))))
      (pss_one (ps_ret (pv 2)))), ?_⟩
    refine ⟨.ref gl, rfl, gl, rfl, ⟨_, SqL.of hgl⟩, for_list (xs := rs) (fun i σ H' => H' = H ∧ ∃ y, σ = [some (.ref rt), some (.ref gl), some (.int ((gs.take i).map (total1 r)).sum), y]) ⟨rfl, none, rfl⟩ (fun i σ H' _ hP => by rw [hP.1]; exact SqL.of hgl) (fun i x σ H' hx hP => ?_) (fun σ H' hP => ?_)⟩
    · obtain ⟨rfl, y, rfl⟩ := hP
      obtain ⟨t, g, rfl, hg, ht⟩ := hgs.get hx
      have hT : SqT K H' t (gv g) := SqT.of ht
      have e := pts_take (total1 r) hg
      cases g with
      | bye b =>
        refine ⟨.ref t, rfl, t, _, rfl, .inr hT, rfl, _, rfl, ifT rfl ?_⟩
        refine ⟨_, rfl, .ref rt, rfl, rt, _, 0, .int r.w, rfl, rfl, hR, atI_nat (j := 0) rfl, _, _, rfl, rfl, rfl, some (.ref t), ?_⟩
        rw [e]
        rfl
      | con h a x y =>
        refine ⟨.ref t, rfl, t, _, rfl, .inr hT, rfl, _, rfl, ifF (fun z => ?_) ?_⟩
        · have e1 : (((gv (.con h a x y)).length : Nat) : Int) = 1 := vint.mp z
          revert e1
          show ¬ (4 : Int) = 1
          decide
        refine ⟨.ref t, rfl, t, _, 2, .int x, rfl, rfl, hT, atI_nat (j := 2) rfl, .ref t, rfl, t, _, 3, .int y, rfl, rfl, hT, atI_nat (j := 3) rfl, rfl, _, rfl, ifD (fun z => ?_) (fun z => ?_)⟩
        · have e2 : total1 r (.con h a x y) = 2 * r.d := if_pos (vint.mp z)
          rw [e2] at e
          refine ⟨_, rfl, .ref rt, rfl, rt, _, 1, .int r.d, rfl, rfl, hR, atI_nat (j := 1) rfl, _, _, rfl, rfl, .inl ⟨by decide, by decide⟩, _, _, rfl, rfl, rfl, some (.ref t), ?_⟩
          rw [e]
          rfl
        · have e2 : total1 r (.con h a x y) = r.w + r.l := if_neg (fun q => z (vint.mpr q))
          rw [e2, ← Int.add_assoc] at e
          refine ⟨_, rfl, .ref rt, rfl, rt, _, 0, .int r.w, rfl, rfl, hR, atI_nat (j := 0) rfl, _, _, rfl, rfl, .ref rt, rfl, rt, _, 2, .int r.l, rfl, rfl, hR, atI_nat (j := 2) rfl, _, _, rfl, rfl, rfl, some (.ref t), ?_⟩
          rw [e]
          rfl
    · obtain ⟨rfl, y, rfl⟩ := hP
      have e0 : gs.take rs.length = gs := List.take_of_length_le (by
        rw [hgs.len]
        exact Nat.le_refl _)
      rw [e0]
      exact ⟨_, rfl, q⟩
theorem ok_ren {f : Addr} {fd : FuncData} {k : Nat} (F : Fun K "_law_renamed" "_law_renamed" sRen f fd) (mlen : mg "len" = none) (mlist : mg "list" = none) (mrev : mg "reversed" = none) :
    FnOk P w K mg base CX0 (k + 1) f fd ["_law_games_here", "_law_to"] spRen := by
  refine F.ok scRen (fun vs H Q E h => ?_) (fun cdv A outer s H vs Q E hr h => ?_)
  · obtain ⟨gl, tl, rs, gs, t, n, rfl, _⟩ := h
    rfl
  · obtain ⟨gl, tl, rs, gs, to, n, rfl, hgl, hgs, hlen, htl, hnum, hok, q⟩ := h
    refine ⟨_, pss_cons (ps_set (i := 2) scRen.nd rfl (.inl rfl) (pe_lst pa_nil))
      (pss_cons (ps_for PassesOwn.never rfl (pi_list (pv 0)) (pg_name (i := 3) scRen.nd rfl (.inl rfl))
        (pss_one (ps_if (pt_cmpR op_eq (pe_callB call_len_seq (by rfl) mlen PySem.boot_len (pa_cons (pv 3) pa_nil)) pe_int (nomark _))
          (pss_one (ps_expr (pe_bm PySem.F.plainAttrs_list PySem.F.slot_list_append PySem.F.type_list_append mt_append (pv 2)
            (pa_cons (pe_tup (pa_cons (pe_ix ix_list (pv 1) (pe_ix ix_tup (pv 3) pe_int (fun _ _ => rfl)) (fun _ _ => rfl)) pa_nil)) pa_nil))))
          (pss_one (ps_expr (pe_bm PySem.F.plainAttrs_list PySem.F.slot_list_append PySem.F.type_list_append mt_append (pv 2)
            (pa_cons (pe_tup (pa_cons (pe_ix ix_list (pv 1) (pe_ix ix_tup (pv 3) pe_int (fun _ _ => rfl)) (fun _ _ => rfl))
              (pa_cons (pe_ix ix_list (pv 1) (pe_ix ix_tup (pv 3) pe_int (fun _ _ => rfl)) (fun _ _ => rfl))
              (pa_cons (pe_ix ix_tup (pv 3) pe_int (fun _ _ => rfl)) (pa_cons (pe_ix ix_tup (pv 3) pe_int (fun _ _ => rfl)) pa_nil))))) pa_nil)))))))
      (pss_one (ps_ret (pe_listRev rfl (by rfl) mlist (by rfl) mrev (pv 2))))), ?_⟩
    refine ⟨Nat.zero_le _, fun D nD => ?_⟩
    have toAt : ∀ {p : Int}, 0 ≤ p → p < n → atI (to.map V.int) p = some (.int (to.getD p.toNat 0)) := fun {p} h0 h1 => by
      have e := atI_nat (j := p.toNat) (at_int (hnum.get (show p.toNat < n by omega)))
      rw [show ((p.toNat : Nat) : Int) = p by omega] at e
      exact e
    refine ⟨.ref gl, rfl, gl, rfl, ⟨_, SqL.of (Same.new (Same.refl H) nD _ _ hgl)⟩, for_list (xs := rs) (fun i σ H' => Same H H' ∧ ∃ y fs, σ = [some (.ref gl), some (.ref tl), some (.ref D), y] ∧ H' D = some (.lst fs) ∧ Gms H' fs ((gs.take i).map (ren to)))
      ⟨Same.new (Same.refl H) nD, none, [], rfl, upd_same, Gms.nil⟩ (fun i σ H' _ hP => SqL.of (hP.1 _ _ hgl)) (fun i x σ H' hx hP => ?_) (fun σ H' hP => ?_)⟩
    · obtain ⟨sm, y, fs, rfl, eD, hfs⟩ := hP
      obtain ⟨t, g, rfl, hg, ht⟩ := hgs.get hx
      have hT : SqT K H' t (gv g) := Same.tup sm ht
      have hL : SqL K H' tl (to.map V.int) := SqL.of (sm _ _ htl)
      have hgok := hok g (List.mem_of_getElem? hg)
      have hfl : fs.length ≤ 1000 := by
        rw [hfs.len, List.length_map, List.length_take]
        omega
      -- the end of a turn: the new tuple p holds the renamed game
      have fin : ∀ p, H' p = none → ∃ l xs' y', V.ref D = V.ref l ∧ [V.ref p] = [y'] ∧ (upd H' p (.tup (gv (ren to g)))) l = some (.lst xs') ∧ xs'.length < sizeLine ∧
          (Same H (upd (upd H' p (.tup (gv (ren to g)))) l (.lst (xs' ++ [y']))) ∧ ∃ y fs, [some (V.ref gl), some (V.ref tl), some (V.ref D), some (V.ref t)] = [some (.ref gl), some (.ref tl), some (.ref D), y] ∧ (upd (upd H' p (.tup (gv (ren to g)))) l (.lst (xs' ++ [y']))) D = some (.lst fs) ∧
            Gms (upd (upd H' p (.tup (gv (ren to g)))) l (.lst (xs' ++ [y']))) fs ((gs.take (i + 1)).map (ren to))) := fun p np => by
        have eD2 : (upd H' p (.tup (gv (ren to g)))) D = some (.lst fs) := by
          rw [upd_ne (ne_of_none eD np)]
          exact eD
        refine ⟨D, fs, .ref p, rfl, rfl, eD2, small1000 hfl, Same.over (Same.new sm np) nD, _, _, rfl, upd_same, Gms.upd ?_ eD2⟩
        rw [List.take_add_one, hg, List.map_append]
        exact Gms.snoc (hfs.same (Same.new (Same.refl H') np)) upd_same
      cases g with
      | bye b =>
        obtain ⟨h0, h1⟩ := hgok
        refine ⟨.ref t, rfl, t, _, rfl, .inr hT, rfl, _, rfl, ifT rfl ?_⟩
        refine ⟨.ref D, rfl, .inl ⟨rfl, _, SqL.of eD⟩, .ref tl, rfl, .ref t, rfl, t, _, 0, .int b, rfl, rfl, hT, atI_nat (j := 0) rfl, tl, _, _, _, rfl, rfl, hL, toAt h0 h1, line1000 (by show 1 ≤ 1000; decide), fun p np => ?_⟩
        exact fin p np
      | con h a x y =>
        obtain ⟨h0, h1, h2, h3, _⟩ := hgok
        refine ⟨.ref t, rfl, t, _, rfl, .inr hT, rfl, _, rfl, ifF (fun z => ?_) ?_⟩
        · have e1 : (((gv (.con h a x y)).length : Nat) : Int) = 1 := vint.mp z
          revert e1
          show ¬ (4 : Int) = 1
          decide
        refine ⟨.ref D, rfl, .inl ⟨rfl, _, SqL.of eD⟩, .ref tl, rfl, .ref t, rfl, t, _, 1, .int a, rfl, rfl, hT, atI_nat (j := 1) rfl, tl, _, _, _, rfl, rfl, hL, toAt h2 h3,
          .ref tl, rfl, .ref t, rfl, t, _, 0, .int h, rfl, rfl, hT, atI_nat (j := 0) rfl, tl, _, _, _, rfl, rfl, hL, toAt h0 h1,
          .ref t, rfl, t, _, 3, .int y, rfl, rfl, hT, atI_nat (j := 3) rfl, .ref t, rfl, t, _, 2, .int x, rfl, rfl, hT, atI_nat (j := 2) rfl, line1000 (by show 4 ≤ 1000; decide), fun p np => ?_⟩
        exact fin p np
    · obtain ⟨sm, y, fs, rfl, eD, hfs⟩ := hP
      have e0 : gs.take rs.length = gs := List.take_of_length_le (by
        rw [hgs.len]
        exact Nat.le_refl _)
      rw [e0] at hfs
      refine ⟨.ref D, rfl, D, fs, rfl, SqL.of eD, fun p np => ?_⟩
      exact q _ p _ (Same.new sm np) upd_same (hfs.rev.same (Same.new (Same.refl H') np))
end
end K6
namespace K6
open PySem PySem.Spec PyProof.Rows L2
theorem ixN_of {n : Nat} {p : Int} (h0 : 0 ≤ p) (h1 : p < n) : ixN n p = some p.toNat := by
  unfold ixN
  rw [if_pos h0, if_pos h1]
theorem map_set_int (t : List Int) (i : Nat) (v : Int) : (t.map V.int).set i (.int v) = (t.set i v).map V.int := by
  rw [List.map_set]
section
variable {P : Program} {w : World} {K : PySem.W.Frag} {mg : Str → Option Value} {base : Heap}
theorem ok_num {f : Addr} {fd : FuncData} {k : Nat} (F : Fun K "_law_numbers" "_law_numbers" sNum f fd) (mran : mg "range" = none) : FnOk P w K mg base CX0 (k + 1) f fd ["_law_cell", "_law_n"] spNum := by
  refine F.ok scNum (fun vs H Q E h => ?_) (fun cdv A outer s H vs Q E hr h => ?_)
  · obtain ⟨c, n, rfl, _⟩ := h
    rfl
  · obtain ⟨c, n, rfl, hn2, hn16, q⟩ := h
    refine ⟨_, pss_cons (ps_setLc (i := 2) (own := [("_law_k", 4)]) (g := gName 4) (tt := tYes) rfl scNum.nd rfl rfl (sw_true rfl rfl rfl (by decide +kernel)) (pi_range1 (by rfl) mran (pa_cons (pv 1) pa_nil)) (blkOk_by (N := nNum) (sc := defScope sNum) (by decide +kernel))
        (fun _ _ _ _ _ => pg_name (i := 4) scNum.nd rfl (Or.inl rfl)) (fun _ _ _ _ _ => pts_nil) (fun _ _ _ _ _ => pv 4))
      (pss_cons (ps_set (i := 3) scNum.nd rfl (.inl rfl) (pe_op op_add (pe_op op_mod (pv 0) pe_int) pe_int))
      (pss_cons (ps_for PassesOwn.never rfl (pi_range1 (by rfl) mran (pa_cons (pv 1) pa_nil)) (pg_name (i := 4) scNum.nd rfl (.inl rfl))
        (pss_cons (ps_set (i := 3) scNum.nd rfl (.inl rfl) (pe_op op_mod (pe_op op_add (pe_op op_add (pe_op op_mul (pv 3) (pv 3)) (pe_op op_mul pe_int (pv 3))) (pv 4)) pe_int))
        (pss_cons (ps_set (i := 5) scNum.nd rfl (.inl rfl) (pe_ix ix_list (pv 2) (pv 4) (fun _ _ => rfl)))
        (pss_cons (ps_asg (pe_ix ix_list (pv 2) (pe_op op_mod (pv 3) (pv 1)) (fun _ _ => rfl)) (pg_sub (pv 2) (pv 4) set_list))
        (pss_one (ps_asg (pv 5) (pg_sub (pv 2) (pe_op op_mod (pv 3) (pv 1)) set_list)))))))
      (pss_one (ps_ret (pv 2))))), ?_⟩
    -- [k for k in range(n)]
    refine ⟨.int (n : Int), rfl, (n : Int), rfl, by omega, by omega, fun D nD => ?_⟩
    refine lc_range (lo := 0) (n := n) (fun i H' => Same H H' ∧ H' D = some (.lst (((List.range i).map fun (j : Nat) => (j : Int)).map V.int))) ⟨Same.new (Same.refl H) nD, upd_same⟩ (fun i H1 hi hP => ?_) (fun H1 hP => ?_)
    · obtain ⟨sm, eD⟩ := hP
      refine ⟨rfl, yes ?_⟩
      refine ⟨.int (0 + (i : Int)), rfl, _, eD, ?_, Same.over sm nD, ?_⟩
      · refine small1000 ?_
        rw [List.length_map, List.length_map, List.length_range]
        omega
      · rw [upd_same, List.range_succ, List.map_append, List.map_append, Int.zero_add]
        rfl
    · obtain ⟨sm, eD⟩ := hP
      refine ⟨.int c, rfl, c, 1000003, rfl, rfl, (by show (0 : Int) < 1000003; decide), _, 1, rfl, rfl, ?_⟩
      refine ⟨.int (n : Int), rfl, (n : Int), rfl, by omega, by omega, ?_⟩
      refine for_range (lo := 0) (n := n) (fun i σ H' => ∃ (t : List Int) (z : Int) (y4 y5 : Option V), σ = [some (.int c), some (.int (n : Int)), some (.ref D), some (.int z), y4, y5] ∧ Same H H' ∧ H' D = some (.lst (t.map V.int)) ∧ Num n t ∧ 0 ≤ z ∧ z ≤ 1000003)
        ⟨_, c % 1000003 + 1, none, none, rfl, sm, eD, Num.id n, by omega, by omega⟩ (fun i σ H' hi hP => ?_) (fun σ H' hP => ?_)
      · obtain ⟨t, z, y4, y5, rfl, sm', eD', hN, z0, z1⟩ := hP
        have hn0 : (0 : Int) < n := by omega
        rw [Int.zero_add]
        refine ⟨.int z, rfl, .int z, rfl, z, z, rfl, rfl, .inl ⟨by omega, by omega⟩, .int z, rfl, 17, z, rfl, rfl, .inl ⟨by decide, by decide⟩, _, _, rfl, rfl, .int (i : Int), rfl, _, _, rfl, rfl, _, 1000003, rfl, rfl, (by show (0 : Int) < 1000003; decide), ?_⟩
        have b0 : 0 ≤ (z * z + 17 * z + (i : Int)) % 1000003 := Int.emod_nonneg _ (by decide)
        have b1 : (z * z + 17 * z + (i : Int)) % 1000003 < 1000003 := Int.emod_lt_of_pos _ (by decide)
        dsimp only
        generalize (z * z + 17 * z + (i : Int)) % 1000003 = u at b0 b1 ⊢
        have m0 : 0 ≤ u % (n : Int) := Int.emod_nonneg _ (by omega)
        have m1 : u % (n : Int) < n := Int.emod_lt_of_pos _ hn0
        have hi1 := hN.get hi
        have hj1 := hN.get (show (u % (n : Int)).toNat < n by omega)
        have ej : (((u % (n : Int)).toNat : Nat) : Int) = u % (n : Int) := by omega
        have aj := atI_nat (at_int hj1)
        rw [ej] at aj
        have sz1 : (t.map V.int).length = n := by rw [List.length_map, hN.len]
        have ii : ixN (t.map V.int).length (i : Int) = some i := by
          rw [sz1]
          exact ixN_of (by omega) (by omega)
        -- held = to[k]
        refine ⟨.ref D, rfl, .int (i : Int), rfl, D, _, (i : Int), _, rfl, rfl, SqL.of eD', atI_nat (at_int hi1), ?_⟩
        -- to[k] = to[number % n]
        refine ⟨.ref D, rfl, .int u, rfl, .int (n : Int), rfl, u, (n : Int), rfl, rfl, hn0, D, _, u % (n : Int), _, rfl, rfl, SqL.of eD', aj, .ref D, rfl, .int (i : Int), rfl, D, _, (i : Int), i, rfl, rfl, eD', ii, ?_⟩
        -- to[number % n] = held
        refine ⟨_, rfl, .ref D, rfl, .int u, rfl, .int (n : Int), rfl, u, (n : Int), rfl, rfl, hn0, D, _, u % (n : Int), (u % (n : Int)).toNat, rfl, rfl, upd_same, ?_, ?_⟩
        · rw [List.length_set, sz1]
          exact ixN_of m0 m1
        · refine ⟨(t.set i (t.getD (u % (n : Int)).toNat 0)).set (u % (n : Int)).toNat (t.getD i 0), u, _, _, rfl, Same.over (Same.over sm' nD) nD, ?_, hN.swap hi1 hj1, b0, by omega⟩
          rw [upd_same, map_set_int, map_set_int]
      · obtain ⟨t, z, y4, y5, rfl, sm', eD', hN, z0, z1⟩ := hP
        exact ⟨.ref D, rfl, q H' D t sm' eD' hN⟩
end
end K6
namespace K6
open PySem PySem.Spec PyProof.Rows L2
theorem away_ok {n h e : Int} (hn : 2 ≤ n) (h0 : 0 ≤ h) (h1 : h < n) (e0 : 0 ≤ e) (e1 : e < n - 1) : 0 ≤ (h + 1 + e) % n ∧ (h + 1 + e) % n < n ∧ h ≠ (h + 1 + e) % n := by
  refine ⟨Int.emod_nonneg _ (by omega), Int.emod_lt_of_pos _ (by omega), ?_⟩
  by_cases hlt : h + 1 + e < n
  · rw [Int.emod_eq_of_lt (by omega) hlt]
    omega
  · rw [show h + 1 + e = (h + 1 + e - n) + n by omega, Int.add_emod_right, Int.emod_eq_of_lt (by omega) (by omega)]
    omega
theorem cut_int (ns : List Int) (lo hi : Option Int) : ∃ ms : List Int, cutV (ns.map V.int) lo hi = ms.map V.int ∧ ms.length ≤ ns.length := by
  have hl := cutV_length (ns.map V.int) lo hi
  rw [List.length_map] at hl
  have e : ∃ ms : List Int, cutV (ns.map V.int) lo hi = ms.map V.int := by
    unfold cutV
    rw [← List.map_drop, ← List.map_take]
    exact ⟨_, rfl⟩
  obtain ⟨ms, e⟩ := e
  rw [e, List.length_map] at hl
  exact ⟨ms, e, hl⟩
theorem menu_at (x : Int) : ∃ m : Int, 0 < m ∧ atI [V.int 3, V.int 1000] (x % 2) = some (.int m) := by
  have h0 : 0 ≤ x % 2 := Int.emod_nonneg _ (by decide)
  have h1 : x % 2 < 2 := Int.emod_lt_of_pos _ (by decide)
  by_cases e : x % 2 = 0
  · rw [e]
    exact ⟨3, by decide, atI_nat (j := 0) rfl⟩
  · have e2 : x % 2 = 1 := by omega
    rw [e2]
    exact ⟨1000, by decide, atI_nat (j := 1) rfl⟩
section
variable {P : Program} {w : World} {K : PySem.W.Frag} {mg : Str → Option Value} {base : Heap}
theorem ok_gam {f : Addr} {fd : FuncData} {k : Nat} (F : Fun K "_law_games" "_law_games" sGam f fd) : FnOk P w K mg base CX0 (k + 1) f fd ["_law_script", "_law_n"] (spGam K) := by
  refine F.ok scGam (fun vs H Q E h => ?_) (fun cdv A outer s H vs Q E hr h => ?_)
  · obtain ⟨a, ns, n, rfl, _⟩ := h
    rfl
  · obtain ⟨a, ns, n, rfl, hS, hlen, hn2, hn16, q⟩ := h
    refine ⟨_, pss_cons (ps_set (i := 2) scGam.nd rfl (.inl rfl) (pe_lst pa_nil))
      (pss_cons (ps_for PassesOwn.never rfl (pi_list (pe_slice sl_list (pv 0) (po_some pe_int) (po_some pe_int))) (pg_name (i := 3) scGam.nd rfl (.inl rfl))
        (pss_cons (ps_set (i := 4) scGam.nd rfl (.inl rfl) (pe_op op_mod (pe_op op_fdiv (pv 3) pe_int) (pv 1)))
        (pss_one (ps_if (pt_cmpR op_eq (pe_op op_mod (pv 3) pe_int) pe_int (nomark _))
          (pss_one (ps_expr (pe_bm PySem.F.plainAttrs_list PySem.F.slot_list_append PySem.F.type_list_append mt_append (pv 2) (pa_cons (pe_tup (pa_cons (pv 4) pa_nil)) pa_nil))))
          (pss_cons (ps_set (i := 5) scGam.nd rfl (.inl rfl) (pe_op op_mod (pe_op op_add (pe_op op_add (pv 4) pe_int) (pe_op op_mod (pe_op op_fdiv (pv 3) pe_int) (pe_op op_sub (pv 1) pe_int))) (pv 1)))
          (pss_one (ps_expr (pe_bm PySem.F.plainAttrs_list PySem.F.slot_list_append PySem.F.type_list_append mt_append (pv 2) (pa_cons (pe_tup (pa_cons (pv 4) (pa_cons (pv 5)
            (pa_cons (pe_op op_mod (pe_op op_fdiv (pv 3) pe_int) pe_int)
            (pa_cons (pe_op op_mod (pe_op op_fdiv (pv 3) pe_int) (pe_ix ix_list (pe_lst (pa_cons pe_int (pa_cons pe_int pa_nil))) (pe_op op_mod (pv 3) pe_int) (fun _ _ => rfl))) pa_nil))))) pa_nil)))))))))
      (pss_one (ps_ret (pv 2)))), ?_⟩
    refine ⟨Nat.zero_le _, fun D nD => ?_⟩
    have s1 : Same H (upd H D (.lst [])) := Same.new (Same.refl H) nD
    refine ⟨.ref a, rfl, 2, rfl, 42, rfl, a, _, rfl, s1.seq hS, fun c nc => ?_⟩
    obtain ⟨ms, ems, hms⟩ := cut_int ns (some 2) (some 42)
    rw [ems]
    have nDc : c ≠ D := fun e => by
      rw [e, upd_same] at nc
      cases nc
    have nc0 : H c = none := s1.free nc
    have hn0 : (0 : Int) < n := by omega
    refine ⟨c, rfl, ⟨_, SqL.of upd_same⟩, for_list (xs := ms.map V.int) (fun i σ H' => Same H H' ∧ H' c = some (.lst (ms.map V.int)) ∧ ∃ y3 y4 y5 rs gs, σ = [some (.ref a), some (.int (n : Int)), some (.ref D), y3, y4, y5] ∧ H' D = some (.lst rs) ∧ Gms H' rs gs ∧ (∀ g, g ∈ gs → GOk n g) ∧ gs.length = i)
      ⟨Same.new s1 nc, upd_same, none, none, none, [], [], rfl, by rw [upd_ne nDc.symm, upd_same], Gms.nil, fun g hg => absurd hg (List.not_mem_nil), rfl⟩ (fun i σ H' _ hP => SqL.of hP.2.1) (fun i v σ H' hv hP => ?_) (fun σ H' hP => ?_)⟩
    · obtain ⟨sm, ec, y3, y4, y5, rs, gs, rfl, eD, hgs, hok, hl⟩ := hP
      obtain ⟨x, hx, rfl⟩ := int_at hv
      have hi : i < ms.length := (List.getElem?_eq_some_iff.mp hx).1
      have h0 : 0 ≤ x / 8 % (n : Int) := Int.emod_nonneg _ (by omega)
      have h1 : x / 8 % (n : Int) < n := Int.emod_lt_of_pos _ hn0
      have hrl : rs.length ≤ 1000 := by
        rw [hgs.len]
        omega
      -- the end of a turn: the tuple p holds the game g
      have fin : ∀ (H2 : Hp) (p : Addr) (g : G) (y4 y5 : Option V), Same H' H2 → H2 p = none → GOk n g → ∃ l xs' y', V.ref D = V.ref l ∧ [V.ref p] = [y'] ∧ (upd H2 p (.tup (gv g))) l = some (.lst xs') ∧ xs'.length < sizeLine ∧
          (Same H (upd (upd H2 p (.tup (gv g))) l (.lst (xs' ++ [y']))) ∧ (upd (upd H2 p (.tup (gv g))) l (.lst (xs' ++ [y']))) c = some (.lst (ms.map V.int)) ∧
            ∃ z3 z4 z5 rs gs, [some (V.ref a), some (V.int (n : Int)), some (V.ref D), some (V.int x), y4, y5] = [some (.ref a), some (.int (n : Int)), some (.ref D), z3, z4, z5] ∧ (upd (upd H2 p (.tup (gv g))) l (.lst (xs' ++ [y']))) D = some (.lst rs) ∧
            Gms (upd (upd H2 p (.tup (gv g))) l (.lst (xs' ++ [y']))) rs gs ∧ (∀ g, g ∈ gs → GOk n g) ∧ gs.length = i + 1) := fun H2 p g y4 y5 sm2 np hg => by
        have sm3 : Same H' (upd H2 p (.tup (gv g))) := Same.new sm2 np
        have eD2 := sm3 _ _ eD
        refine ⟨D, rs, .ref p, rfl, rfl, eD2, small1000 hrl, Same.over (sm.trans sm3) nD, ?_, _, _, _, _, gs ++ [g], rfl, upd_same, Gms.upd ?_ eD2, fun u hu => ?_, ?_⟩
        · rw [upd_ne nDc]
          exact sm3 _ _ ec
        · exact Gms.snoc (hgs.same sm3) upd_same
        · rcases List.mem_append.mp hu with z | z
          · exact hok u z
          · rw [List.mem_singleton.mp z]
            exact hg
        · rw [List.length_append, hl]
          rfl
      refine ⟨.int x, rfl, x, 8, rfl, rfl, ⟨by decide, by decide⟩, .int (n : Int), rfl, _, (n : Int), rfl, rfl, hn0, ?_⟩
      refine ⟨.int x, rfl, x, 8, rfl, rfl, (by show (0 : Int) < 8; decide), rfl, _, rfl, ifD (fun _ => ?_) (fun _ => ?_)⟩
      · -- a bye
        refine ⟨.ref D, rfl, .inl ⟨rfl, _, SqL.of eD⟩, _, rfl, line1000 (by show 1 ≤ 1000; decide), fun p np => ?_⟩
        exact fin H' p (.bye (x / 8 % (n : Int))) _ _ (Same.refl H') np ⟨h0, h1⟩
      · -- a contest
        have e0 : 0 ≤ x / 128 % ((n : Int) - 1) := Int.emod_nonneg _ (by omega)
        have e1 : x / 128 % ((n : Int) - 1) < (n : Int) - 1 := Int.emod_lt_of_pos _ (by omega)
        obtain ⟨a0, a1, a2⟩ := away_ok (n := (n : Int)) (by omega) h0 h1 e0 e1
        refine ⟨_, rfl, _, 1, rfl, rfl, .int x, rfl, x, 128, rfl, rfl, ⟨by decide, by decide⟩, .int (n : Int), rfl, (n : Int), 1, rfl, rfl, _, _, rfl, rfl, (by show (0 : Int) < (n : Int) - 1; omega), _, _, rfl, rfl, .int (n : Int), rfl, _, (n : Int), rfl, rfl, hn0, ?_⟩
        obtain ⟨m, hm0, hmat⟩ := menu_at x
        refine ⟨.ref D, rfl, .inl ⟨rfl, _, SqL.of eD⟩, _, rfl, _, rfl, .int x, rfl, x, 1920, rfl, rfl, ⟨by decide, by decide⟩, _, 3, rfl, rfl, (by show (0 : Int) < 3; decide),
          .int x, rfl, x, 5760, rfl, rfl, ⟨by decide, by decide⟩, line1000 (by show 2 ≤ 1000; decide), fun l nl => ?_⟩
        have sl : Same H' (upd H' l (.lst [V.int 3, V.int 1000])) := Same.new (Same.refl H') nl
        refine ⟨.int x, rfl, x, 2, rfl, rfl, (by show (0 : Int) < 2; decide), l, _, x % 2, .int m, rfl, rfl, SqL.of upd_same, hmat, _, m, rfl, rfl, hm0, line1000 (by show 4 ≤ 1000; decide), fun p np => ?_⟩
        exact fin _ p (.con (x / 8 % (n : Int)) ((x / 8 % (n : Int) + 1 + x / 128 % ((n : Int) - 1)) % (n : Int)) (x / 1920 % 3) (x / 5760 % m)) _ _ sl np ⟨h0, h1, a0, a1, a2⟩
    · obtain ⟨sm, ec, y3, y4, y5, rs, gs, rfl, eD, hgs, hok, hl⟩ := hP
      rw [List.length_map] at hl
      exact ⟨.ref D, rfl, q H' D rs gs sm eD hgs hok (by omega)⟩
end
end K6
namespace K6
open PySem PySem.Spec PyProof.Rows L2
theorem notT {A B : Prop} (h : B) : if (!true) = true then A else B := iteF h
section
variable {P : Program} {w : World} {K : PySem.W.Frag} {mg : Str → Option Value} {base : Heap}
theorem dp_ints {H : Hp} : ∀ ns : List Int, DpAll K H (ns.map V.int) (ns.map PyData.int)
  | [] => .nil
  | n :: r => .cons (.int n) (dp_ints r)
theorem ok_law {f fC fR fG fN fA fE fP : Addr} {fd fdC fdR fdG fdN fdA fdE fdP : FuncData} (F : Fun K "law" "law" sLaw f fd)
    (FC : Fun K "_law_cell_at" "_law_cell_at" sCel fC fdC) (FR : Fun K "_law_rule" "_law_rule" sRul fR fdR) (FG : Fun K "_law_games" "_law_games" sGam fG fdG) (FN : Fun K "_law_numbers" "_law_numbers" sNum fN fdN)
    (FA : Fun K "_law_all" "_law_all" sAll fA fdA) (FE : Fun K "_law_renamed" "_law_renamed" sRen fE fdE) (FP : Fun K "points_of" "points_of" sPts fP fdP)
    (bC : Binds K fdC ["_law_script", "_law_k"] []) (bR : Binds K fdR ["_law_cell"] []) (bG : Binds K fdG ["_law_script", "_law_n"] []) (bN : Binds K fdN ["_law_cell", "_law_n"] []) (bA : Binds K fdA ["_law_rule_here", "_law_games_here"] [])
    (bE : Binds K fdE ["_law_games_here", "_law_to"] []) (bP : Binds K fdP ["rule", "games", "n"] [])
    (gC : mg "_law_cell_at" = some (.ref fC)) (gR : mg "_law_rule" = some (.ref fR)) (gG : mg "_law_games" = some (.ref fG)) (gN : mg "_law_numbers" = some (.ref fN)) (gA : mg "_law_all" = some (.ref fA)) (gE : mg "_law_renamed" = some (.ref fE)) (gP : mg "points_of" = some (.ref fP))
    (GP : FnOk P w K mg base CX0 3 fP fdP ["rule", "games", "n"] spPts)
    (mlen : mg "len" = none) (mlist : mg "list" = none) (mrev : mg "reversed" = none) (mran : mg "range" = none) (msort : mg "sorted" = none) (msum : mg "sum" = none) (misi : mg "isinstance" = none) :
    FnOk P w K mg base CX0 4 f fd ["_law_script"] (spLaw K) := by
  have GC : FnOk P w K mg base CX0 1 fC fdC ["_law_script", "_law_k"] (spCel K) := ok_cel FC mlen
  have GR : FnOk P w K mg base CX0 1 fR fdR ["_law_cell"] spRul := ok_rul FR msort
  have GG : FnOk P w K mg base CX0 1 fG fdG ["_law_script", "_law_n"] (spGam K) := ok_gam FG
  have GN : FnOk P w K mg base CX0 1 fN fdN ["_law_cell", "_law_n"] spNum := ok_num FN mran
  have GA : FnOk P w K mg base CX0 1 fA fdA ["_law_rule_here", "_law_games_here"] spAll := ok_all FA mlen
  have GE : FnOk P w K mg base CX0 1 fE fdE ["_law_games_here", "_law_to"] spRen := ok_ren FE mlen mlist mrev
  refine F.ok scLaw (fun vs H Q E h => ?_) (fun cdv A outer s H vs Q E hr h => ?_)
  · obtain ⟨a, ns, rfl, _⟩ := h
    rfl
  · obtain ⟨a, ns, rfl, hS, hlen, q⟩ := h
    have hr1 := hr.mono (show 1 ≤ 3 by decide)
    refine ⟨_, pss_cons (ps_set (i := 1) scLaw.nd rfl (.inl rfl) (pe_op op_add pe_int (pe_op op_mod (pe_call GC hr1 (by rfl) gC FC.kp bC .nil pass0 (pa_cons (pv 0) (pa_cons pe_int pa_nil))) pe_int)))
      (pss_cons (ps_set (i := 2) scLaw.nd rfl (.inl rfl) (pe_call GR hr1 (by rfl) gR FR.kp bR .nil pass0 (pa_cons (pe_call GC hr1 (by rfl) gC FC.kp bC .nil pass0 (pa_cons (pv 0) (pa_cons pe_int pa_nil))) pa_nil)))
      (pss_cons (ps_set (i := 3) scLaw.nd rfl (.inl rfl) (pe_call GG hr1 (by rfl) gG FG.kp bG .nil pass0 (pa_cons (pv 0) (pa_cons (pv 1) pa_nil))))
      (pss_cons (ps_set (i := 4) scLaw.nd rfl (.inr rfl) (pe_call GN hr1 (by rfl) gN FN.kp bN .nil pass0 (pa_cons (pe_op op_fdiv (pe_call GC hr1 (by rfl) gC FC.kp bC .nil pass0 (pa_cons (pv 0) (pa_cons pe_int pa_nil))) pe_int) (pa_cons (pv 1) pa_nil))))
      (pss_cons (ps_set (i := 5) scLaw.nd rfl (.inl rfl) (pe_call GP hr (by rfl) gP FP.kp bP .nil pass0 (pa_cons (pv 2) (pa_cons (pe_callTy call_list_of (by rfl) mlist PyProof.Rows.boot_list (pa_cons (pv 3) pa_nil)) (pa_cons (pv 1) pa_nil)))))
      (pss_cons (ps_set (i := 6) scLaw.nd rfl (.inr rfl) (pe_call GP hr (by rfl) gP FP.kp bP .nil pass0 (pa_cons (pv 2) (pa_cons (pe_call GE hr1 (by rfl) gE FE.kp bE .nil pass0 (pa_cons (pv 3) (pa_cons (pv 4) pa_nil))) (pa_cons (pv 1) pa_nil)))))
      (pss_cons (ps_if (PW.pt (pw_or (pt_not (pt_val (pe_callB call_isi (by rfl) misi PyProof.Rows.boot_isinstance (pa_cons (pv 5) (pa_cons (pe_bltn (v := .ty "list") (by rfl) mlist PyProof.Rows.boot_list rfl) pa_nil)))))
          (pw_or (pt_not (pt_val (pe_callB call_isi (by rfl) misi PyProof.Rows.boot_isinstance (pa_cons (pv 6) (pa_cons (pe_bltn (v := .ty "list") (by rfl) mlist PyProof.Rows.boot_list rfl) pa_nil)))))
          (pw_or (pt_cmpR op_ne (pe_callB call_len_seq (by rfl) mlen PySem.boot_len (pa_cons (pv 5) pa_nil)) (pv 1) (nomark _))
          (pw_or1 (pt_cmpR op_ne (pe_callB call_len_seq (by rfl) mlen PySem.boot_len (pa_cons (pv 6) pa_nil)) (pv 1) (nomark _)))))))
        (pss_one (ps_ret pe_bl)) pss_nil)
      (pss_cons (ps_if (pt_cmpR op_ne (pe_callB (cr_sum rfl) (by rfl) msum PyProof.Rows.boot_sum (pa_cons (pv 5) pa_nil)) (pe_call GA hr1 (by rfl) gA FA.kp bA .nil pass0 (pa_cons (pv 2) (pa_cons (pv 3) pa_nil))) (nomark _)) (pss_one (ps_ret pe_bl)) pss_nil)
      (pss_one (ps_ret (pe_cmpR (op_eqD hr.units) (pe_lc (own := [("_law_k", 7)]) (g := gName 7) (tt := tYes) rfl scLaw.nd (pi_range1 (by rfl) mran (pa_cons (pv 1) pa_nil)) (blkOk_by (N := nLaw) (sc := defScope sLaw) (by decide +kernel))
          (fun _ _ _ _ _ => pg_name (i := 7) scLaw.nd rfl (Or.inl rfl)) (fun _ _ _ _ _ => pts_nil) (fun _ _ _ _ _ => pe_ix (r := rIxL K) ix_list (pv 6) (pe_ix (r := rIxL K) ix_list (pv 4) (pv 7) (fun _ _ => rfl)) (fun _ _ => rfl))) (pv 5) (nomark _))))))))))), ?_⟩
    -- n = 2 + cell % 15
    refine ⟨.ref a, rfl, a, ns, 0, rfl, hS, fun c0 => ⟨c0, 15, rfl, rfl, (by show (0 : Int) < 15; decide), 2, _, rfl, rfl, ?_⟩⟩
    obtain ⟨n, en, hn2, hn16⟩ : ∃ n : Nat, 2 + c0 % 15 = (n : Int) ∧ 2 ≤ n ∧ n ≤ 16 := by
      have h0 : 0 ≤ c0 % 15 := Int.emod_nonneg _ (by decide)
      have h1 : c0 % 15 < 15 := Int.emod_lt_of_pos _ (by decide)
      exact ⟨(2 + c0 % 15).toNat, by omega, by omega, by omega⟩
    dsimp only
    rw [en]
    -- the rule
    refine ⟨.ref a, rfl, a, ns, 1, rfl, hS, fun c1 => ⟨c1, rfl, fun H1 rt r s1 hrt => ?_⟩⟩
    -- the games
    refine ⟨.ref a, rfl, .int (n : Int), rfl, a, ns, n, rfl, s1.seq hS, hlen, hn2, hn16, fun H2 gl rs gs s2 hgl hgs hok hgn => ?_⟩
    have s02 := s1.trans s2
    -- the numbering
    refine ⟨.ref a, rfl, a, ns, 0, rfl, s02.seq hS, fun c2 => ⟨c2, 15, rfl, rfl, ⟨by decide, by decide⟩, .int (n : Int), rfl, _, n, rfl, hn2, hn16, fun H3 tl t s3 htl hN => ?_⟩⟩
    -- the table
    refine ⟨.ref rt, rfl, .ref gl, rfl, gl, rs, rfl, .inl (SqL.of (s3 _ _ hgl)), fun l nl => ?_⟩
    have s4 : Same H3 (upd H3 l (.lst rs)) := Same.new (Same.refl H3) nl
    have s24 := s3.trans s4
    refine ⟨.int (n : Int), rfl, rt, l, r, rs, gs, n, rfl, s24 _ _ (s2 _ _ hrt), upd_same, hgs.same s24, by omega, by omega, fun H5 tb s5 nb htb => ?_⟩
    have s25 := s24.trans s5
    have s35 := s4.trans s5
    -- the other table
    refine ⟨.ref rt, rfl, .ref gl, rfl, .ref tl, rfl, gl, tl, rs, gs, t, n, rfl, s25 _ _ hgl, hgs.same s25, by omega, s35 _ _ htl, hN, hok, fun H6 rl rs' s6 hrl hgs' => ?_⟩
    have s26 := s25.trans s6
    refine ⟨.int (n : Int), rfl, rt, rl, r, rs', renamed t gs, n, rfl, s26 _ _ (s2 _ _ hrt), hrl, hgs', ?_, by omega, fun H7 ot s7 no hot => ?_⟩
    · unfold renamed
      rw [List.length_reverse, List.length_map]
      omega
    have s27 := s26.trans s7
    have hTB : H7 tb = some (.lst ((table r gs n).map V.int)) := s7 _ _ (s6 _ _ htb)
    have lTB : (((table r gs n).map V.int).length : Int) = (n : Int) := by rw [List.length_map, table_length]
    have lOT : (((table r (renamed t gs) n).map V.int).length : Int) = (n : Int) := by rw [List.length_map, table_length]
    -- the shapes
    refine ⟨.ref tb, rfl, .ref tb, .ty "list", .type "list", .type "list", true, rfl, .ty "list", .base (.lst hTB), kit_ty (by decide +kernel), true, rfl, notT ?_⟩
    refine ⟨.ref ot, rfl, .ref ot, .ty "list", .type "list", .type "list", true, rfl, .ty "list", .base (.lst hot), kit_ty (by decide +kernel), true, rfl, notT ?_⟩
    refine ⟨.ref tb, rfl, tb, _, rfl, .inl (SqL.of hTB), .int (n : Int), rfl, rfl, _, rfl, nifT (vint.mpr lTB) ?_⟩
    refine ⟨.ref ot, rfl, ot, _, rfl, .inl (SqL.of hot), .int (n : Int), rfl, rfl, _, rfl, nifT (vint.mpr lOT) ?_⟩
    -- the sum
    refine ⟨.ref tb, rfl, tb, _, rfl, SqL.of hTB, .ref rt, rfl, .ref gl, rfl, rt, gl, r, rs, gs, rfl, s27 _ _ (s2 _ _ hrt), s27 _ _ hgl, hgs.same s27, rfl, _, rfl, nifT (vint.mpr (table_sum r hok)) ?_⟩
    -- the numbers
    refine ⟨.int (n : Int), rfl, (n : Int), rfl, by omega, by omega, fun D nD => ?_⟩
    refine lc_range (lo := 0) (n := n) (fun i H' => Same H7 H' ∧ H' D = some (.lst (((table r gs n).take i).map V.int))) ⟨Same.new (Same.refl H7) nD, upd_same⟩ (fun i H8 hi hP => ?_) (fun H8 hP => ?_)
    · obtain ⟨sm, eD⟩ := hP
      rw [Int.zero_add]
      refine ⟨rfl, yes ?_⟩
      obtain ⟨j, ej, eo⟩ := other_get r hN hok hi
      refine ⟨.ref ot, rfl, .ref tl, rfl, .int (i : Int), rfl, tl, _, (i : Int), .int (j : Int), rfl, rfl, SqL.of (sm _ _ (s7 _ _ (s6 _ _ (s35 _ _ htl)))), atI_nat (at_int ej), ot, _, (j : Int), .int (pts r gs (i : Int)), rfl, rfl, SqL.of (sm _ _ hot), atI_nat (at_int eo), _, eD, ?_, Same.over sm nD, ?_⟩
      · refine small1000 ?_
        rw [List.length_map, List.length_take, table_length]
        omega
      · rw [upd_same, table_take r gs hi, List.map_append]
        rfl
    · obtain ⟨sm, eD⟩ := hP
      have e0 : (table r gs n).take n = table r gs n := List.take_of_length_le (by
        rw [table_length]
        exact Nat.le_refl _)
      rw [e0] at eD
      refine ⟨.ref tb, rfl, .list ((table r gs n).map PyData.int), .list ((table r gs n).map PyData.int), .lst (SqL.of eD) (dp_ints _), .lst (SqL.of (sm _ _ hTB)) (dp_ints _), PySem.W.ke_shaped_ints _, PySem.W.ke_shaped_ints _, ?_⟩
      rw [SeqAt.eqv_refl _ (SeqAt.canLay_of_shaped (PySem.W.ke_shaped_ints _))]
      exact q _
end
end K6
namespace K6
open PySem PySem.Spec PyProof.Rows L2
/-! ### what the top has written -/
theorem all_mk {l : PySem.W.OpenLaw} {w : World} {K : PySem.W.Frag} {h : Heap} {mg : Str → Option Value} {fa f1 f2 f3 f4 f5 f6 f7 f8 f9 f10 f11 : Addr} (X : K.In h) (G : h.Ns mainGlobals mg) (hfa : mg "law" = some (.ref fa))
    {od1 an1 od2 an2 od3 an3 od4 an4 od5 an5 od6 an6 od7 an7 od8 an8 od9 an9 od10 an10 od11 an11 : Option Addr} {sl1 sl2 sl3 sl4 sl5 sl6 sl7 sl8 sl9 sl10 sl11 : Array (Option Value)} {oc1 kV1 dc1 pm1 cd1 ct1 oc2 kV2 dc2 pm2 cd2 ct2 oc3 kV3 dc3 pm3 cd3 ct3 oc4 kV4 dc4 pm4 cd4 ct4 oc5 kV5 dc5 pm5 cd5 ct5 oc6 kV6 dc6 pm6 cd6 ct6 oc7 kV7 dc7 pm7 cd7 ct7 oc8 kV8 dc8 pm8 cd8 ct8 oc9 kV9 dc9 pm9 cd9 ct9 oc10 kV10 dc10 pm10 cd10 ct10 oc11 kV11 dc11 pm11 cd11 ct11 : Value}
    (a1 : PySem.W.nsIn K mainGlobals "winner_of" = some (some (.ref f1))) (l1 : K.lookup f1 = some ⟨oc1, od1, .func (PySem.W.fnOf "winner_of" "winner_of" (defArgs sWin) (defBody sWin) (defScope sWin) .none kV1 dc1 pm1 an1 cd1 ct1), sl1⟩) (c1 : PySem.W.codeIn K cd1 "winner_of" = true) (k1 : PySem.W.keepIn K (.ref f1) = true)
    (a2 : PySem.W.nsIn K mainGlobals "players_of" = some (some (.ref f2))) (l2 : K.lookup f2 = some ⟨oc2, od2, .func (PySem.W.fnOf "players_of" "players_of" (defArgs sPla) (defBody sPla) (defScope sPla) .none kV2 dc2 pm2 an2 cd2 ct2), sl2⟩) (c2 : PySem.W.codeIn K cd2 "players_of" = true) (k2 : PySem.W.keepIn K (.ref f2) = true)
    (a3 : PySem.W.nsIn K mainGlobals "gives" = some (some (.ref f3))) (l3 : K.lookup f3 = some ⟨oc3, od3, .func (PySem.W.fnOf "gives" "gives" (defArgs sGiv) (defBody sGiv) (defScope sGiv) .none kV3 dc3 pm3 an3 cd3 ct3), sl3⟩) (c3 : PySem.W.codeIn K cd3 "gives" = true) (k3 : PySem.W.keepIn K (.ref f3) = true)
    (a4 : PySem.W.nsIn K mainGlobals "points_of" = some (some (.ref f4))) (l4 : K.lookup f4 = some ⟨oc4, od4, .func (PySem.W.fnOf "points_of" "points_of" (defArgs sPts) (defBody sPts) (defScope sPts) .none kV4 dc4 pm4 an4 cd4 ct4), sl4⟩) (c4 : PySem.W.codeIn K cd4 "points_of" = true) (k4 : PySem.W.keepIn K (.ref f4) = true)
    (a5 : PySem.W.nsIn K mainGlobals "_law_cell_at" = some (some (.ref f5))) (l5 : K.lookup f5 = some ⟨oc5, od5, .func (PySem.W.fnOf "_law_cell_at" "_law_cell_at" (defArgs sCel) (defBody sCel) (defScope sCel) .none kV5 dc5 pm5 an5 cd5 ct5), sl5⟩) (c5 : PySem.W.codeIn K cd5 "_law_cell_at" = true) (k5 : PySem.W.keepIn K (.ref f5) = true)
    (a6 : PySem.W.nsIn K mainGlobals "_law_rule" = some (some (.ref f6))) (l6 : K.lookup f6 = some ⟨oc6, od6, .func (PySem.W.fnOf "_law_rule" "_law_rule" (defArgs sRul) (defBody sRul) (defScope sRul) .none kV6 dc6 pm6 an6 cd6 ct6), sl6⟩) (c6 : PySem.W.codeIn K cd6 "_law_rule" = true) (k6 : PySem.W.keepIn K (.ref f6) = true)
    (a7 : PySem.W.nsIn K mainGlobals "_law_games" = some (some (.ref f7))) (l7 : K.lookup f7 = some ⟨oc7, od7, .func (PySem.W.fnOf "_law_games" "_law_games" (defArgs sGam) (defBody sGam) (defScope sGam) .none kV7 dc7 pm7 an7 cd7 ct7), sl7⟩) (c7 : PySem.W.codeIn K cd7 "_law_games" = true) (k7 : PySem.W.keepIn K (.ref f7) = true)
    (a8 : PySem.W.nsIn K mainGlobals "_law_all" = some (some (.ref f8))) (l8 : K.lookup f8 = some ⟨oc8, od8, .func (PySem.W.fnOf "_law_all" "_law_all" (defArgs sAll) (defBody sAll) (defScope sAll) .none kV8 dc8 pm8 an8 cd8 ct8), sl8⟩) (c8 : PySem.W.codeIn K cd8 "_law_all" = true) (k8 : PySem.W.keepIn K (.ref f8) = true)
    (a9 : PySem.W.nsIn K mainGlobals "_law_numbers" = some (some (.ref f9))) (l9 : K.lookup f9 = some ⟨oc9, od9, .func (PySem.W.fnOf "_law_numbers" "_law_numbers" (defArgs sNum) (defBody sNum) (defScope sNum) .none kV9 dc9 pm9 an9 cd9 ct9), sl9⟩) (c9 : PySem.W.codeIn K cd9 "_law_numbers" = true) (k9 : PySem.W.keepIn K (.ref f9) = true)
    (a10 : PySem.W.nsIn K mainGlobals "_law_renamed" = some (some (.ref f10))) (l10 : K.lookup f10 = some ⟨oc10, od10, .func (PySem.W.fnOf "_law_renamed" "_law_renamed" (defArgs sRen) (defBody sRen) (defScope sRen) .none kV10 dc10 pm10 an10 cd10 ct10), sl10⟩) (c10 : PySem.W.codeIn K cd10 "_law_renamed" = true) (k10 : PySem.W.keepIn K (.ref f10) = true)
    (a11 : PySem.W.nsIn K mainGlobals "law" = some (some (.ref f11))) (l11 : K.lookup f11 = some ⟨oc11, od11, .func (PySem.W.fnOf "law" "law" (defArgs sLaw) (defBody sLaw) (defScope sLaw) .none kV11 dc11 pm11 an11 cd11 ct11), sl11⟩) (c11 : PySem.W.codeIn K cd11 "law" = true) (k11 : PySem.W.keepIn K (.ref f11) = true)
    (z1 : PySem.W.nsIn K mainGlobals "len" = some none) (z2 : PySem.W.nsIn K mainGlobals "list" = some none) (z3 : PySem.W.nsIn K mainGlobals "int" = some none) (z4 : PySem.W.nsIn K mainGlobals "reversed" = some none) (z5 : PySem.W.nsIn K mainGlobals "range" = some none) (z6 : PySem.W.nsIn K mainGlobals "sorted" = some none) (z7 : PySem.W.nsIn K mainGlobals "sum" = some none) (z8 : PySem.W.nsIn K mainGlobals "isinstance" = some none) :
    ∃ fd : FuncData, (∀ (s : Shared) (v : Value), BindsTo s fd ⟨[v], []⟩ [("_law_script", v)]) ∧ ∀ base : Heap, K.In base → base.Ns mainGlobals mg → FnOk l.prog w K mg base CX0 4 fa fd ["_law_script"] (spLaw K) := by
  have e := hfa.symm.trans (PySem.W.mg_of X G a11)
  cases e
  have F1 := fun_mk (st := sWin) l1 c1 k1
  have F2 := fun_mk (st := sPla) l2 c2 k2
  have F3 := fun_mk (st := sGiv) l3 c3 k3
  have F4 := fun_mk (st := sPts) l4 c4 k4
  have F5 := fun_mk (st := sCel) l5 c5 k5
  have F6 := fun_mk (st := sRul) l6 c6 k6
  have F7 := fun_mk (st := sGam) l7 c7 k7
  have F8 := fun_mk (st := sAll) l8 c8 k8
  have F9 := fun_mk (st := sNum) l9 c9 k9
  have F10 := fun_mk (st := sRen) l10 c10 k10
  have F11 := fun_mk (st := sLaw) l11 c11 k11
  have b1 := F1.binds (ps := ["game"]) fun _ _ _ _ _ _ us hl => match us, hl with | [_], _ => rfl
  have b2 := F2.binds (ps := ["game"]) fun _ _ _ _ _ _ us hl => match us, hl with | [_], _ => rfl
  have b3 := F3.binds (ps := ["rule", "game", "player"]) fun _ _ _ _ _ _ us hl => match us, hl with | [_, _, _], _ => rfl
  have b4 := F4.binds (ps := ["rule", "games", "n"]) fun _ _ _ _ _ _ us hl => match us, hl with | [_, _, _], _ => rfl
  have b5 := F5.binds (ps := ["_law_script", "_law_k"]) fun _ _ _ _ _ _ us hl => match us, hl with | [_, _], _ => rfl
  have b6 := F6.binds (ps := ["_law_cell"]) fun _ _ _ _ _ _ us hl => match us, hl with | [_], _ => rfl
  have b7 := F7.binds (ps := ["_law_script", "_law_n"]) fun _ _ _ _ _ _ us hl => match us, hl with | [_, _], _ => rfl
  have b8 := F8.binds (ps := ["_law_rule_here", "_law_games_here"]) fun _ _ _ _ _ _ us hl => match us, hl with | [_, _], _ => rfl
  have b9 := F9.binds (ps := ["_law_cell", "_law_n"]) fun _ _ _ _ _ _ us hl => match us, hl with | [_, _], _ => rfl
  have b10 := F10.binds (ps := ["_law_games_here", "_law_to"]) fun _ _ _ _ _ _ us hl => match us, hl with | [_, _], _ => rfl
  have m1 := PySem.W.mg_none_of X G z1
  have m2 := PySem.W.mg_none_of X G z2
  have m3 := PySem.W.mg_none_of X G z3
  have m4 := PySem.W.mg_none_of X G z4
  have m5 := PySem.W.mg_none_of X G z5
  have m6 := PySem.W.mg_none_of X G z6
  have m7 := PySem.W.mg_none_of X G z7
  have m8 := PySem.W.mg_none_of X G z8
  have g1 := PySem.W.mg_of X G a1
  have g2 := PySem.W.mg_of X G a2
  have g3 := PySem.W.mg_of X G a3
  have g4 := PySem.W.mg_of X G a4
  have g5 := PySem.W.mg_of X G a5
  have g6 := PySem.W.mg_of X G a6
  have g7 := PySem.W.mg_of X G a7
  have g8 := PySem.W.mg_of X G a8
  have g9 := PySem.W.mg_of X G a9
  have g10 := PySem.W.mg_of X G a10
  refine ⟨PySem.W.fnOf "law" "law" (defArgs sLaw) (defBody sLaw) (defScope sLaw) .none kV11 dc11 pm11 an11 cd11 ct11, fun s v => .of_eq rfl, fun base _ _ => ?_⟩
  have GG : FnOk l.prog w K mg base CX0 2 f3 _ ["rule", "game", "player"] spGiv := ok_giv F3 F1 F2 b1 b2 g1 g2 m1 m3 m2
  have GP : FnOk l.prog w K mg base CX0 3 f4 _ ["rule", "games", "n"] spPts := ok_pts F4 F3 b3 g3 GG m7 m5
  exact ok_law F11 F5 F6 F7 F9 F8 F10 F4 b5 b6 b7 b9 b8 b10 b4 g5 g6 g7 g9 g8 g10 g4 GP m1 m2 m4 m5 m6 m7 m8
end K6
open PySem PySem.W PyProof.Rows
set_option maxHeartbeats 0 in
theorem PySem.Challenge.cw_cupdraw_k06_whole_points_are_shared_holds : PySem.Challenge.rw_cupdraw_k06_whole_points_are_shared.Holds := by
  w_on; o_law; k_head; (case hw => w_witness2)
  k_fill
  refine L2.walk_of (l := PySem.Challenge.rw_cupdraw_k06_whole_points_are_shared) (n := 63) (k := 4) (x := "_law_script") (CX := fun _ => L2.CX0) (sp := fun w => K6.spLaw _) rfl (by decide) rfl ⟨rfl, by decide, by decide⟩ (fun w h Y => PySem.W.kIn_of Y) ?F (fun _ _ a ns hl _ hS => ⟨a, ns, rfl, hS, hl, fun _ => rfl⟩) (fun _ _ _ _ _ h => h)
  case F =>
    intro w mg fa h KX G hmg
    refine' K6.all_mk KX G hmg ?a1 ?l1 ?c1 ?k1 ?a2 ?l2 ?c2 ?k2 ?a3 ?l3 ?c3 ?k3 ?a4 ?l4 ?c4 ?k4 ?a5 ?l5 ?c5 ?k5 ?a6 ?l6 ?c6 ?k6 ?a7 ?l7 ?c7 ?k7 ?a8 ?l8 ?c8 ?k8 ?a9 ?l9 ?c9 ?k9 ?a10 ?l10 ?c10 ?k10 ?a11 ?l11 ?c11 ?k11 ?z1 ?z2 ?z3 ?z4 ?z5 ?z6 ?z7 ?z8
    (case a1 => k_is); (case l1 => k_is); (case c1 => k_is); (case k1 => k_is); (case a2 => k_is); (case l2 => k_is); (case c2 => k_is); (case k2 => k_is); (case a3 => k_is); (case l3 => k_is); (case c3 => k_is); (case k3 => k_is); (case a4 => k_is); (case l4 => k_is); (case c4 => k_is); (case k4 => k_is); (case a5 => k_is); (case l5 => k_is); (case c5 => k_is); (case k5 => k_is); (case a6 => k_is); (case l6 => k_is); (case c6 => k_is); (case k6 => k_is); (case a7 => k_is); (case l7 => k_is); (case c7 => k_is); (case k7 => k_is); (case a8 => k_is); (case l8 => k_is); (case c8 => k_is); (case k8 => k_is); (case a9 => k_is); (case l9 => k_is); (case c9 => k_is); (case k9 => k_is); (case a10 => k_is); (case l10 => k_is); (case c10 => k_is); (case k10 => k_is); (case a11 => k_is); (case l11 => k_is); (case c11 => k_is); (case k11 => k_is); (case z1 => k_is); (case z2 => k_is); (case z3 => k_is); (case z4 => k_is); (case z5 => k_is); (case z6 => k_is); (case z7 => k_is); (case z8 => k_is)
