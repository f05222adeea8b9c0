import PyProof.Rows.All
import Wide.All
import OpenK.AllK
import Wide.FinOn
import KE.SortData
import HandS.TupSets
import KE.KeyNested
import HandS.SetTxt0
import HandS.Lambda
import KE.SortKeyHeap
import PyProof.TupleOfSeq
import HandS.SortKw
import HandS.ForMost
import HandS.IsInst
import HandS.Deep
import HandS.TupAny
import HandS.Star
import HandS.Style
import HandS.Conv
import HandS.Walk
import KE.GoesMore
import HandS.Text
import HandS.Strs
import HandS.HeadHook3
import PySem.Challenge.RW_lossbars_k08_whole_holding_is_an_order
import HandS.Head0
import HandS.Head1
import HandS.Head2
import HandS.HeadHook4
import HandS.HeadWalk
section
set_option Elab.async false
set_option linter.all false
set_option maxRecDepth 100000
set_option maxHeartbeats 4000000
/-! the mathematics: sorts, values, holding, keys, sizes -/
namespace LB
open PySem PySem.W PyProof.Rows

inductive S where
  | mark (ls : List Str)
  | count
  | both (a b : S)
  | either (a b : S)
  | lane (a : S)
  | heap (a : S)
  deriving DecidableEq

abbrev kMark : Str := "mark"
abbrev kCount : Str := "count"
abbrev kBoth : Str := "both"
abbrev kEither : Str := "either"
abbrev kLane : Str := "lane"
abbrev kHeap : Str := "heap"
abbrev sL : Str := "left"
abbrev sR : Str := "right"

def S.enc : S → PyData
  | .mark ls => .tuple [.str kMark, .tuple (ls.map .str)]
  | .count => .tuple [.str kCount]
  | .both a b => .tuple [.str kBoth, a.enc, b.enc]
  | .either a b => .tuple [.str kEither, a.enc, b.enc]
  | .lane a => .tuple [.str kLane, a.enc]
  | .heap a => .tuple [.str kHeap, a.enc]

def ix : List Str → Str → Nat
  | [], _ => 0
  | l :: ls, x => if x = l then 0 else ix ls x + 1

/-- the program's key -/
def keyV : S → PyData → PyData
  | .mark ls, .str x => .tuple [.int (ix ls x : Nat)]
  | .count, .int n => .tuple [.int n]
  | .both a b, .tuple [x, y] => .tuple [keyV a x, keyV b y]
  | .either a b, .tuple [.str s, x] => if s = sL then .tuple [.int 0, keyV a x] else .tuple [.int 1, keyV b x]
  | .lane a, .tuple xs => .tuple (xs.map (keyV a))
  | .heap a, .tuple xs => .tuple (xs.map (keyV a))
  | _, d => d
/-- the law's key -/
def keyL : S → PyData → PyData
  | .mark ls, .str x => .int (ix ls x : Nat)
  | .count, .int n => .int n
  | .both a b, .tuple [x, y] => .tuple [keyL a x, keyL b y]
  | .either a b, .tuple [.str s, x] => if s = sR then .tuple [.int 1, keyL b x] else .tuple [.int 0, keyL a x]
  | .lane a, .tuple xs => .tuple (xs.map (keyL a))
  | .heap a, .tuple xs => .tuple (xs.map (keyL a))
  | _, d => d

def Le (s : S) (x y : PyData) : Prop := dataLt (keyV s y) (keyV s x) = false

/-- a value of the sort, small -/
def T : S → PyData → Prop
  | .mark ls, d => ∃ x, x ∈ ls ∧ d = .str x
  | .count, d => ∃ n : Nat, n ≤ 3 ∧ d = .int (n : Int)
  | .both a b, d => ∃ x y, d = .tuple [x, y] ∧ T a x ∧ T b y
  | .either a b, d => (∃ x, d = .tuple [.str sL, x] ∧ T a x) ∨ (∃ y, d = .tuple [.str sR, y] ∧ T b y)
  | .lane a, d => ∃ xs, d = .tuple xs ∧ xs.length ≤ 3 ∧ ∀ x ∈ xs, T a x
  | .heap a, d => ∃ xs, d = .tuple xs ∧ xs.length ≤ 3 ∧ (∀ x ∈ xs, T a x) ∧ xs.Pairwise (Le a)

/-! ### keys are told apart by their signs -/
abbrev Tk := List (Int ⊕ List Nat)
abbrev lxl (a b : Tk) : Bool := PyProof.Rows.lexLt itemOrd a b
theorem lxl_pre (p a b : Tk) : lxl (p ++ a) (p ++ b) = lxl a b := lex_pre p a b
theorem lxl_ne {x y : Int ⊕ List Nat} (h : x ≠ y) (a b : Tk) : lxl (x :: a) (y :: b) = itemLt x y := lex_diff (O := itemOrd) h

/-- x and y are parted by b, whatever follows -/
def Sep (b : Bool) (x y : Tk) : Prop := ∀ l m, lxl (x ++ l) (y ++ m) = b
theorem Sep.pre {b : Bool} {x y : Tk} (p : Tk) (h : Sep b x y) : Sep b (p ++ x) (p ++ y) := fun l m => by
  rw [List.append_assoc, List.append_assoc, lxl_pre]; exact h l m
theorem Sep.post {b : Bool} {x y : Tk} (u w : Tk) (h : Sep b x y) : Sep b (x ++ u) (y ++ w) := fun l m => by
  rw [List.append_assoc, List.append_assoc]; exact h _ _
theorem Sep.ints {i j : Int} (h : i ≠ j) (u w : Tk) : Sep (decide (i < j)) (.inl i :: u) (.inl j :: w) := fun l m => by
  rw [List.cons_append, List.cons_append, lxl_ne (by intro q; exact h (Sum.inl.inj q))]; rfl

theorem toks_tup (xs : List PyData) : keyToks (.tuple xs) = keyToksAll xs := by rw [keyToks]
theorem toks_int (n : Int) : keyToks (.int n) = [.inl n] := by rw [keyToks]
theorem toks_nil : keyToksAll [] = [.inl 0] := by rw [keyToksAll]
theorem toks_cons (x : PyData) (xs : List PyData) : keyToksAll (x :: xs) = .inl 1 :: (keyToks x ++ keyToksAll xs) := toks_all_cons x xs

theorem ix_inj : ∀ {ls : List Str} {x y : Str}, x ∈ ls → y ∈ ls → ix ls x = ix ls y → x = y
  | [], _, _, h, _, _ => by cases h
  | l :: ls, x, y, hx, hy, e => by
    unfold ix at e
    by_cases h1 : x = l
    · by_cases h2 : y = l
      · rw [h1, h2]
      · rw [if_pos h1, if_neg h2] at e; omega
    · by_cases h2 : y = l
      · rw [if_neg h1, if_pos h2] at e; omega
      · rw [if_neg h1, if_neg h2] at e
        have hx' : x ∈ ls := (List.mem_cons.mp hx).resolve_left h1
        have hy' : y ∈ ls := (List.mem_cons.mp hy).resolve_left h2
        exact ix_inj hx' hy' (by omega)

theorem sep_list {f g : PyData → PyData} : ∀ (xs ys : List PyData), (∀ x ∈ xs, ∀ y ∈ ys, x ≠ y → ∃ b, Sep b (keyToks (f x)) (keyToks (f y)) ∧ Sep b (keyToks (g x)) (keyToks (g y))) → xs ≠ ys →
    ∃ b, Sep b (keyToksAll (xs.map f)) (keyToksAll (ys.map f)) ∧ Sep b (keyToksAll (xs.map g)) (keyToksAll (ys.map g))
  | [], [], _, h => absurd rfl h
  | [], y :: ys, _, _ => by
    refine ⟨decide ((0 : Int) < 1), ?_, ?_⟩ <;>
    · rw [List.map_nil, List.map_cons, toks_nil, toks_cons]
      exact Sep.ints (by decide) _ _
  | x :: xs, [], _, _ => by
    refine ⟨decide ((1 : Int) < 0), ?_, ?_⟩ <;>
    · rw [List.map_nil, List.map_cons, toks_nil, toks_cons]
      exact Sep.ints (by decide) _ _
  | x :: xs, y :: ys, h, hne => by
    simp only [List.map_cons, toks_cons]
    rcases Classical.em (x = y) with e | e
    · subst e
      obtain ⟨b, h1, h2⟩ := sep_list (f := f) (g := g) xs ys (fun a ha c hc => h a (List.mem_cons_of_mem _ ha) c (List.mem_cons_of_mem _ hc)) (fun q => hne (by rw [q]))
      exact ⟨b, (h1.pre (keyToks (f x))).pre [_], (h2.pre (keyToks (g x))).pre [_]⟩
    · obtain ⟨b, h1, h2⟩ := h x List.mem_cons_self y List.mem_cons_self e
      exact ⟨b, (h1.post _ _).pre [_], (h2.post _ _).pre [_]⟩

theorem sep_key : ∀ (s : S) (x y : PyData), T s x → T s y → x ≠ y → ∃ b, Sep b (keyToks (keyV s x)) (keyToks (keyV s y)) ∧ Sep b (keyToks (keyL s x)) (keyToks (keyL s y))
  | .mark ls, x, y, hx, hy, hne => by
    obtain ⟨a, ha, rfl⟩ := hx
    obtain ⟨c, hc, rfl⟩ := hy
    have hi : ((ix ls a : Nat) : Int) ≠ ((ix ls c : Nat) : Int) := fun q => hne (by rw [ix_inj ha hc (by omega)])
    simp only [keyV, keyL, toks_tup, toks_cons, toks_int]
    exact ⟨_, (Sep.ints hi _ _).pre [_], Sep.ints hi _ _⟩
  | .count, x, y, hx, hy, hne => by
    obtain ⟨a, ha, rfl⟩ := hx
    obtain ⟨c, hc, rfl⟩ := hy
    have hi : ((a : Nat) : Int) ≠ ((c : Nat) : Int) := fun q => hne (by rw [q])
    simp only [keyV, keyL, toks_tup, toks_cons, toks_int]
    exact ⟨_, (Sep.ints hi _ _).pre [_], Sep.ints hi _ _⟩
  | .both a b, x, y, hx, hy, hne => by
    obtain ⟨x1, x2, rfl, h1, h2⟩ := hx
    obtain ⟨y1, y2, rfl, k1, k2⟩ := hy
    simp only [keyV, keyL, toks_tup, toks_cons]
    rcases Classical.em (x1 = y1) with e | e
    · subst e
      obtain ⟨c, q1, q2⟩ := sep_key b x2 y2 h2 k2 (fun q => hne (by rw [q]))
      exact ⟨c, (((q1.post _ _).pre [_]).pre (keyToks (keyV a x1))).pre [_], (((q2.post _ _).pre [_]).pre (keyToks (keyL a x1))).pre [_]⟩
    · obtain ⟨c, q1, q2⟩ := sep_key a x1 y1 h1 k1 e
      exact ⟨c, (q1.post _ _).pre [_], (q2.post _ _).pre [_]⟩
  | .either a b, x, y, hx, hy, hne => by
    have nLR : ¬ (sL : Str) = sR := by decide +kernel
    have nRL : ¬ (sR : Str) = sL := by decide +kernel
    rcases hx with ⟨x1, rfl, h1⟩ | ⟨x1, rfl, h1⟩ <;> rcases hy with ⟨y1, rfl, k1⟩ | ⟨y1, rfl, k1⟩ <;> simp only [keyV, keyL, if_pos, if_neg nLR, if_neg nRL, toks_tup, toks_cons, toks_int]
    · obtain ⟨c, q1, q2⟩ := sep_key a x1 y1 h1 k1 (fun q => hne (by rw [q]))
      exact ⟨c, (((q1.post _ _).pre [_]).pre [_]).pre [_], (((q2.post _ _).pre [_]).pre [_]).pre [_]⟩
    · exact ⟨_, (Sep.ints (by decide) _ _).pre [_], (Sep.ints (by decide) _ _).pre [_]⟩
    · exact ⟨_, (Sep.ints (by decide) _ _).pre [_], (Sep.ints (by decide) _ _).pre [_]⟩
    · obtain ⟨c, q1, q2⟩ := sep_key b x1 y1 h1 k1 (fun q => hne (by rw [q]))
      exact ⟨c, (((q1.post _ _).pre [_]).pre [_]).pre [_], (((q2.post _ _).pre [_]).pre [_]).pre [_]⟩
  | .lane a, x, y, hx, hy, hne => by
    obtain ⟨xs, rfl, _, h1⟩ := hx
    obtain ⟨ys, rfl, _, k1⟩ := hy
    simp only [keyV, keyL, toks_tup]
    exact sep_list xs ys (fun u hu w hw e => sep_key a u w (h1 u hu) (k1 w hw) e) (fun q => hne (by rw [q]))
  | .heap a, x, y, hx, hy, hne => by
    obtain ⟨xs, rfl, _, h1, _⟩ := hx
    obtain ⟨ys, rfl, _, k1, _⟩ := hy
    simp only [keyV, keyL, toks_tup]
    exact sep_list xs ys (fun u hu w hw e => sep_key a u w (h1 u hu) (k1 w hw) e) (fun q => hne (by rw [q]))

theorem sep_lt {b : Bool} {x y : PyData} (h : Sep b (keyToks x) (keyToks y)) : dataLt x y = b := by
  have := h [] []
  rw [List.append_nil, List.append_nil] at this
  exact this
theorem key_same {s : S} {x y : PyData} (hx : T s x) (hy : T s y) : dataLt (keyV s x) (keyV s y) = dataLt (keyL s x) (keyL s y) := by
  rcases Classical.em (x = y) with e | e
  · subst e
    have h1 : dataLt (keyV s x) (keyV s x) = false := lex_irrefl _
    have h2 : dataLt (keyL s x) (keyL s x) = false := lex_irrefl _
    rw [h1, h2]
  · obtain ⟨b, h1, h2⟩ := sep_key s x y hx hy e
    rw [sep_lt h1, sep_lt h2]
theorem Le.refl (s : S) (x : PyData) : Le s x x := lex_irrefl (O := itemOrd) _
theorem Le.total (s : S) (x y : PyData) : Le s x y ∨ Le s y x := by
  unfold Le
  cases h : dataLt (keyV s y) (keyV s x) with
  | false => exact .inl rfl
  | true =>
    refine .inr ?_
    cases h2 : dataLt (keyV s x) (keyV s y) with
    | false => rfl
    | true =>
      have z := lex_trans (O := itemOrd) _ _ _ h h2
      rw [lex_irrefl] at z
      cases z
theorem Le.trans {s : S} {x y z : PyData} (h1 : Le s x y) (h2 : Le s y z) : Le s x z := by
  unfold Le at *
  cases h : dataLt (keyV s z) (keyV s x) with
  | false => rfl
  | true =>
    rcases lex_negTrans (O := itemOrd) _ (keyToks (keyV s y)) _ h with q | q
    · exact absurd (h2.symm.trans q) (by decide)
    · exact absurd (h1.symm.trans q) (by decide)
theorem Le.anti {s : S} {x y : PyData} (hx : T s x) (hy : T s y) (h1 : Le s x y) (h2 : Le s y x) : x = y := by
  rcases Classical.em (x = y) with e | e
  · exact e
  · obtain ⟨b, q, _⟩ := sep_key s x y hx hy e
    have k : keyToks (keyV s x) = keyToks (keyV s y) := lex_total (O := itemOrd) _ _ h2 h1
    have z1 := q [.inl 0] [.inl 1]
    have z2 := q [.inl 1] [.inl 0]
    rw [k, lxl_pre] at z1 z2
    have w1 : lxl [.inl 0] [.inl 1] = true := by decide +kernel
    have w2 : lxl [.inl 1] [.inl 0] = false := by decide +kernel
    rw [w1] at z1
    rw [w2] at z2
    rw [← z1] at z2
    cases z2
end LB
end
section
set_option Elab.async false
set_option linter.all false
set_option maxRecDepth 100000
set_option maxHeartbeats 4000000
namespace LB
open PySem PySem.W PyProof.Rows

/-! ### embeddings -/
def Emb (R : PyData → PyData → Prop) (vs us : List PyData) (ps : List Nat) : Prop :=
  ps.length = us.length ∧ ∀ (k p : Nat) (u : PyData), ps[k]? = some p → us[k]? = some u → ∃ v, vs[p]? = some v ∧ R v u
def Up (ps : List Nat) : Prop := ps.Pairwise (· < ·)
theorem Up.nodup {ps : List Nat} (h : Up ps) : ps.Nodup := List.Pairwise.imp (fun h => Nat.ne_of_lt h) h

def Hd : S → PyData → PyData → Prop
  | .mark _, v, u => v = u
  | .count, v, u => ∃ m n : Int, v = .int m ∧ u = .int n ∧ n ≤ m
  | .both a b, v, u => ∃ v1 v2 u1 u2, v = .tuple [v1, v2] ∧ u = .tuple [u1, u2] ∧ Hd a v1 u1 ∧ Hd b v2 u2
  | .either a b, v, u => (∃ x y, v = .tuple [.str sL, x] ∧ u = .tuple [.str sL, y] ∧ Hd a x y) ∨ (∃ x y, v = .tuple [.str sR, x] ∧ u = .tuple [.str sR, y] ∧ Hd b x y)
  | .lane a, v, u => ∃ vs us, v = .tuple vs ∧ u = .tuple us ∧ ∃ ps, Up ps ∧ Emb (Hd a) vs us ps
  | .heap a, v, u => ∃ vs us, v = .tuple vs ∧ u = .tuple us ∧ ∃ ps : List Nat, ps.Nodup ∧ Emb (Hd a) vs us ps

def sum : List Nat → Nat
  | [] => 0
  | x :: xs => x + sum xs
theorem sum_append : ∀ a b, sum (a ++ b) = sum a + sum b
  | [], b => by simp [sum]
  | x :: a, b => by simp only [List.cons_append, sum, sum_append a b]; omega
theorem sum_perm {a b : List Nat} (h : a.Perm b) : sum a = sum b := by
  induction h with
  | nil => rfl
  | cons x _ ih => simp only [sum, ih]
  | swap x y l => simp only [sum]; omega
  | trans _ _ i1 i2 => exact i1.trans i2

def sz : S → PyData → Nat
  | .mark _, _ => 1
  | .count, .int n => n.toNat
  | .both a b, .tuple [x, y] => sz a x + sz b y
  | .either a b, .tuple [.str s, x] => if s = sL then sz a x else sz b x
  | .lane a, .tuple xs => sum (xs.map fun x => 1 + sz a x)
  | .heap a, .tuple xs => sum (xs.map fun x => 1 + sz a x)
  | _, _ => 0

/-! ### reflexive, transitive -/
theorem emb_refl {R : PyData → PyData → Prop} {xs : List PyData} (h : ∀ x ∈ xs, R x x) : Emb R xs xs (List.range xs.length) := by
  refine ⟨List.length_range, fun k p u hk hu => ?_⟩
  obtain ⟨h1, h2⟩ := List.getElem?_eq_some_iff.mp hk
  rw [List.getElem_range] at h2
  subst h2
  exact ⟨u, hu, h u (List.mem_of_getElem? hu)⟩
theorem up_range (n : Nat) : Up (List.range n) := List.pairwise_lt_range
theorem hd_refl : ∀ (s : S) (v : PyData), T s v → Hd s v v
  | .mark ls, v, _ => rfl
  | .count, v, h => by
    obtain ⟨n, _, rfl⟩ := h
    exact ⟨n, n, rfl, rfl, Int.le_refl _⟩
  | .both a b, v, h => by
    obtain ⟨x, y, rfl, h1, h2⟩ := h
    exact ⟨x, y, x, y, rfl, rfl, hd_refl a x h1, hd_refl b y h2⟩
  | .either a b, v, h => by
    rcases h with ⟨x, rfl, h⟩ | ⟨x, rfl, h⟩
    · exact .inl ⟨x, x, rfl, rfl, hd_refl a x h⟩
    · exact .inr ⟨x, x, rfl, rfl, hd_refl b x h⟩
  | .lane a, v, h => by
    obtain ⟨xs, rfl, _, h⟩ := h
    exact ⟨xs, xs, rfl, rfl, _, up_range _, emb_refl fun x hx => hd_refl a x (h x hx)⟩
  | .heap a, v, h => by
    obtain ⟨xs, rfl, _, h, _⟩ := h
    exact ⟨xs, xs, rfl, rfl, _, (up_range _).nodup, emb_refl fun x hx => hd_refl a x (h x hx)⟩

def via (ps qs : List Nat) : List Nat := qs.map fun q => ps.getD q 0
theorem via_get {ps qs : List Nat} {k p : Nat} (h : (via ps qs)[k]? = some p) : ∃ q, qs[k]? = some q ∧ p = ps.getD q 0 := by
  unfold via at h
  rw [List.getElem?_map] at h
  cases e : qs[k]? with
  | none => rw [e] at h; cases h
  | some q => rw [e] at h; exact ⟨q, rfl, (Option.some.inj h).symm⟩
theorem emb_trans {R : PyData → PyData → Prop} {vs us ws : List PyData} {ps qs : List Nat} (h1 : Emb R vs us ps) (h2 : Emb R us ws qs) (tr : ∀ v u w, R v u → R u w → R v w) :
    Emb R vs ws (via ps qs) ∧ ∀ q ∈ qs, q < ps.length := by
  have in_ : ∀ q ∈ qs, q < ps.length := fun q hq => by
    obtain ⟨k, hk⟩ := List.getElem?_of_mem hq
    have hl : k < ws.length := by rw [← h2.1]; exact (List.getElem?_eq_some_iff.mp hk).1
    obtain ⟨u, hu, _⟩ := h2.2 k q _ hk (List.getElem?_eq_getElem hl)
    rw [h1.1]
    exact (List.getElem?_eq_some_iff.mp hu).1
  refine ⟨⟨by unfold via; rw [List.length_map]; exact h2.1, fun k p w hp hw => ?_⟩, in_⟩
  obtain ⟨q, hq, rfl⟩ := via_get hp
  obtain ⟨u, hu, r2⟩ := h2.2 k q w hq hw
  have hlt := in_ q (List.mem_of_getElem? hq)
  have e : ps[q]? = some (ps.getD q 0) := by
    rw [List.getElem?_eq_getElem hlt, List.getD_eq_getElem?_getD, List.getElem?_eq_getElem hlt]; rfl
  obtain ⟨v, hv, r1⟩ := h1.2 q _ u e hu
  exact ⟨v, hv, tr v u w r1 r2⟩
theorem getD_of {ps : List Nat} {q : Nat} (h : q < ps.length) : ps.getD q 0 = ps[q] := by
  rw [List.getD_eq_getElem?_getD, List.getElem?_eq_getElem h]; rfl
theorem via_up {ps qs : List Nat} (h1 : Up ps) (h2 : Up qs) (hl : ∀ q ∈ qs, q < ps.length) : Up (via ps qs) := by
  unfold Up via
  rw [List.pairwise_map]
  refine List.Pairwise.imp_of_mem (fun {a b} ha hb h => ?_) h2
  rw [getD_of (hl a ha), getD_of (hl b hb)]
  exact List.pairwise_iff_getElem.mp h1 a b (hl a ha) (hl b hb) h
theorem via_nodup {ps qs : List Nat} (h1 : ps.Nodup) (h2 : qs.Nodup) (hl : ∀ q ∈ qs, q < ps.length) : (via ps qs).Nodup := by
  unfold via List.Nodup
  rw [List.pairwise_map]
  refine List.Pairwise.imp_of_mem (fun {a b} ha hb h => ?_) h2
  rw [getD_of (hl a ha), getD_of (hl b hb)]
  intro e
  exact h ((List.getElem_inj h1).mp e)
theorem hd_trans : ∀ (s : S) (v u w : PyData), Hd s v u → Hd s u w → Hd s v w
  | .mark ls, v, u, w, h1, h2 => Eq.trans (show v = u from h1) h2
  | .count, v, u, w, h1, h2 => by
    obtain ⟨m, n, rfl, rfl, h1⟩ := h1
    obtain ⟨m', n', e, rfl, h2⟩ := h2
    cases e
    exact ⟨m, n', rfl, rfl, by omega⟩
  | .both a b, v, u, w, h1, h2 => by
    obtain ⟨v1, v2, u1, u2, rfl, rfl, p1, p2⟩ := h1
    obtain ⟨u1', u2', w1, w2, e, rfl, q1, q2⟩ := h2
    cases e
    exact ⟨v1, v2, w1, w2, rfl, rfl, hd_trans a _ _ _ p1 q1, hd_trans b _ _ _ p2 q2⟩
  | .either a b, v, u, w, h1, h2 => by
    rcases h1 with ⟨x, y, rfl, rfl, h1⟩ | ⟨x, y, rfl, rfl, h1⟩ <;> rcases h2 with ⟨x', y', e, rfl, h2⟩ | ⟨x', y', e, rfl, h2⟩
    · cases e
      exact .inl ⟨_, _, rfl, rfl, hd_trans a _ _ _ h1 h2⟩
    · simp only [PyData.tuple.injEq, List.cons.injEq, PyData.str.injEq] at e
      exact absurd e.1 (by decide +kernel)
    · simp only [PyData.tuple.injEq, List.cons.injEq, PyData.str.injEq] at e
      exact absurd e.1 (by decide +kernel)
    · cases e
      exact .inr ⟨_, _, rfl, rfl, hd_trans b _ _ _ h1 h2⟩
  | .lane a, v, u, w, h1, h2 => by
    obtain ⟨vs, us, rfl, rfl, ps, up1, e1⟩ := h1
    obtain ⟨us', ws, e, rfl, qs, up2, e2⟩ := h2
    cases e
    obtain ⟨e3, hl⟩ := emb_trans e1 e2 (hd_trans a)
    exact ⟨vs, ws, rfl, rfl, _, via_up up1 up2 hl, e3⟩
  | .heap a, v, u, w, h1, h2 => by
    obtain ⟨vs, us, rfl, rfl, ps, up1, e1⟩ := h1
    obtain ⟨us', ws, e, rfl, qs, up2, e2⟩ := h2
    cases e
    obtain ⟨e3, hl⟩ := emb_trans e1 e2 (hd_trans a)
    exact ⟨vs, ws, rfl, rfl, _, via_nodup up1 up2 hl, e3⟩

/-! ### sizes -/
theorem erase_perm : ∀ (vs : List PyData) (p : Nat) (h : p < vs.length), (vs[p] :: vs.eraseIdx p).Perm vs
  | v :: vs, 0, _ => List.Perm.refl _
  | v :: vs, p + 1, h => (List.Perm.swap _ _ _).trans ((erase_perm vs p (Nat.lt_of_succ_lt_succ h)).cons v)
/-- the elements at different places, and the rest -/
theorem pick_permN : ∀ (n : Nat) (ps : List Nat) (vs : List PyData), ps.length = n → ps.Nodup → (∀ p ∈ ps, p < vs.length) → ∃ rest, vs.Perm (ps.map (fun p => vs.getD p .none) ++ rest)
  | 0, ps, vs, hn, _, _ => by
    rw [List.length_eq_zero_iff.mp hn]
    exact ⟨vs, by simp⟩
  | n + 1, [], vs, hn, _, _ => by simp at hn
  | n + 1, p :: ps, vs, hn, nd, hl => by
    obtain ⟨n1, n2⟩ := List.nodup_cons.mp nd
    have hp : p < vs.length := hl p List.mem_cons_self
    have dn : ∀ q : Nat, q ≠ p → q < vs.length → (vs.eraseIdx p).getD (if q < p then q else q - 1) .none = vs.getD q .none := fun q hq hlt => by
      rw [List.getD_eq_getElem?_getD, List.getD_eq_getElem?_getD]
      congr 1
      by_cases c : q < p
      · rw [if_pos c, List.getElem?_eraseIdx_of_lt c]
      · rw [if_neg c, List.getElem?_eraseIdx_of_ge (by omega)]
        congr 1
        omega
    obtain ⟨rest, hr⟩ := pick_permN n (ps.map fun q => if q < p then q else q - 1) (vs.eraseIdx p) (by rw [List.length_map]; simpa using hn)
      (by
        unfold List.Nodup
        rw [List.pairwise_map]
        refine List.Pairwise.imp_of_mem (fun {a b} ha hb h => ?_) n2
        have h1 : a ≠ p := fun e => n1 (e ▸ ha)
        have h2 : b ≠ p := fun e => n1 (e ▸ hb)
        intro e
        split at e <;> split at e <;> omega)
      (fun q hq => by
        obtain ⟨q', hq', rfl⟩ := List.mem_map.mp hq
        have h1 : q' ≠ p := fun e => n1 (e ▸ hq')
        have h2 := hl q' (List.mem_cons_of_mem _ hq')
        rw [List.length_eraseIdx_of_lt hp]
        split <;> omega)
    refine ⟨rest, ?_⟩
    have e1 : (ps.map fun q => if q < p then q else q - 1).map (fun p' => (vs.eraseIdx p).getD p' .none) = ps.map fun q => vs.getD q .none := by
      rw [List.map_map]
      refine List.map_congr_left fun q hq => ?_
      exact dn q (fun e => n1 (e ▸ hq)) (hl q (List.mem_cons_of_mem _ hq))
    rw [e1] at hr
    have e2 : vs.getD p .none = vs[p] := by rw [List.getD_eq_getElem?_getD, List.getElem?_eq_getElem hp]; rfl
    rw [List.map_cons, e2, List.cons_append]
    exact (erase_perm vs p hp).symm.trans (hr.cons _)
theorem pick_perm (ps : List Nat) (vs : List PyData) (nd : ps.Nodup) (hl : ∀ p ∈ ps, p < vs.length) : ∃ rest, vs.Perm (ps.map (fun p => vs.getD p .none) ++ rest) := pick_permN ps.length ps vs rfl nd hl
/-- element by element no greater; of the same sum only if the same -/
theorem sums_le {f : PyData → Nat} : ∀ (xs us : List PyData), xs.length = us.length → (∀ (k : Nat) (x u : PyData), xs[k]? = some x → us[k]? = some u → u = x ∨ f u < f x) → us = xs ∨ sum (us.map f) < sum (xs.map f)
  | [], [], _, _ => .inl rfl
  | [], _ :: _, h, _ => by simp at h
  | _ :: _, [], h, _ => by simp at h
  | x :: xs, u :: us, h, hk => by
    have ih := sums_le (f := f) xs us (by simpa using h) fun k a c h1 h2 => hk (k + 1) a c (by simpa using h1) (by simpa using h2)
    have h0 := hk 0 x u rfl rfl
    simp only [List.map_cons, sum]
    rcases h0 with rfl | h0 <;> rcases ih with rfl | ih
    · exact .inl rfl
    · exact .inr (by omega)
    · exact .inr (by omega)
    · exact .inr (by omega)
theorem emb_size {R : PyData → PyData → Prop} {vs us : List PyData} {ps : List Nat} {f : PyData → Nat} (e : Emb R vs us ps) (nd : ps.Nodup) (hf : ∀ v u, v ∈ vs → u ∈ us → R v u → u = v ∨ f u < f v) (h1 : ∀ v, 1 ≤ f v) :
    (us = ps.map (fun p => vs.getD p .none) ∧ vs.Perm us) ∨ sum (us.map f) < sum (vs.map f) := by
  have in_ : ∀ p ∈ ps, p < vs.length := fun p hp => by
    obtain ⟨k, hk⟩ := List.getElem?_of_mem hp
    have hl : k < us.length := by rw [← e.1]; exact (List.getElem?_eq_some_iff.mp hk).1
    obtain ⟨u, hu, _⟩ := e.2 k p _ hk (List.getElem?_eq_getElem hl)
    exact (List.getElem?_eq_some_iff.mp hu).1
  obtain ⟨rest, hr⟩ := pick_perm ps vs nd in_
  have hs := sums_le (f := f) (ps.map fun p => vs.getD p .none) us (by rw [List.length_map]; exact e.1) fun k x u hx hu => by
    rw [List.getElem?_map] at hx
    cases q : ps[k]? with
    | none => rw [q] at hx; cases hx
    | some p =>
      rw [q] at hx
      obtain ⟨v, hv, r⟩ := e.2 k p u q hu
      have ex : vs.getD p .none = x := Option.some.inj hx
      rw [List.getD_eq_getElem?_getD, hv] at ex
      have ex' : v = x := ex
      subst ex'
      exact hf v u (List.mem_of_getElem? hv) (List.mem_of_getElem? hu) r
  have ht : sum (vs.map f) = sum ((ps.map fun p => vs.getD p .none).map f) + sum (rest.map f) := by
    rw [sum_perm (hr.map f), List.map_append, sum_append]
  cases rest with
  | nil =>
    rw [List.append_nil] at hr
    rcases hs with hs | hs
    · rw [hs]; exact .inl ⟨rfl, hr⟩
    · refine .inr ?_
      rw [ht]
      omega
  | cons a r =>
    refine .inr ?_
    have ha := h1 a
    have : sum ((a :: r).map f) = f a + sum (r.map f) := rfl
    rcases hs with hs | hs
    · rw [← hs] at ht
      omega
    · omega
/-- a rising list of n places below n is all of them -/
theorem up_full : ∀ (ps : List Nat) (a : Nat), Up ps → (∀ p ∈ ps, a ≤ p ∧ p < a + ps.length) → ps = List.range' a ps.length
  | [], _, _, _ => rfl
  | p :: ps, a, h, hb => by
    obtain ⟨h1, h2⟩ := List.pairwise_cons.mp h
    have hp := hb p List.mem_cons_self
    have len : ∀ (qs : List Nat) (b c : Nat), Up qs → (∀ q ∈ qs, b ≤ q ∧ q < c) → qs ≠ [] → qs.length ≤ c - b := by
      intro qs
      induction qs with
      | nil => intro b c _ _ h; exact absurd rfl h
      | cons q qs ih =>
        intro b c hu hq _
        obtain ⟨u1, u2⟩ := List.pairwise_cons.mp hu
        have hq0 := hq q List.mem_cons_self
        cases qs with
        | nil => simp only [List.length_singleton]; omega
        | cons r rs =>
          have := ih (q + 1) c u2 (fun z hz => ⟨u1 z hz, (hq z (List.mem_cons_of_mem _ hz)).2⟩) (by simp)
          simp only [List.length_cons] at this ⊢
          omega
    have e : p = a := by
      cases ps with
      | nil => simp only [List.length_singleton] at hp; omega
      | cons r rs =>
        have l := len (r :: rs) (p + 1) (a + (p :: r :: rs).length) h2 (fun z hz => ⟨h1 z hz, (hb z (List.mem_cons_of_mem _ hz)).2⟩) (by simp)
        simp only [List.length_cons] at l hp
        omega
    subst e
    have ih := up_full ps (p + 1) h2 fun q hq => ⟨h1 q hq, by
      have := (hb q (List.mem_cons_of_mem _ hq)).2
      simp only [List.length_cons] at this
      omega⟩
    rw [List.length_cons, List.range'_succ, ← ih]
theorem sorted_eq {s : S} : ∀ {xs ys : List PyData}, xs.Perm ys → (∀ x ∈ xs, T s x) → xs.Pairwise (Le s) → ys.Pairwise (Le s) → xs = ys
  | [], ys, p, _, _, _ => by rw [List.Perm.nil_eq p]
  | x :: xs, [], p, _, _, _ => by have := p.length_eq; simp at this
  | x :: xs, y :: ys, p, ht, h1, h2 => by
    obtain ⟨a1, a2⟩ := List.pairwise_cons.mp h1
    obtain ⟨b1, b2⟩ := List.pairwise_cons.mp h2
    have hy : y ∈ x :: xs := p.mem_iff.mpr List.mem_cons_self
    have hx : x ∈ y :: ys := p.mem_iff.mp List.mem_cons_self
    have e : x = y := by
      rcases List.mem_cons.mp hy with e | hy'
      · exact e.symm
      · rcases List.mem_cons.mp hx with e | hx'
        · exact e
        · exact Le.anti (ht x List.mem_cons_self) (ht y hy) (a1 y hy') (b1 x hx')
    subst e
    rw [sorted_eq (p.cons_inv) (fun z hz => ht z (List.mem_cons_of_mem _ hz)) a2 b2]
theorem hd_size : ∀ (s : S) (v u : PyData), T s v → T s u → Hd s v u → u = v ∨ sz s u < sz s v
  | .mark ls, v, u, _, _, h => .inl (Eq.symm h)
  | .count, v, u, tv, tu, h => by
    obtain ⟨m, n, rfl, rfl, h⟩ := h
    obtain ⟨m', _, em⟩ := tv
    obtain ⟨n', _, en⟩ := tu
    cases em
    cases en
    rcases Int.lt_or_eq_of_le h with q | q
    · exact .inr (by show (n' : Int).toNat < (m' : Int).toNat; omega)
    · exact .inl (by rw [q])
  | .both a b, v, u, tv, tu, h => by
    obtain ⟨v1, v2, u1, u2, rfl, rfl, p1, p2⟩ := h
    obtain ⟨_, _, e, tv1, tv2⟩ := tv
    cases e
    obtain ⟨_, _, e, tu1, tu2⟩ := tu
    cases e
    have h1 := hd_size a v1 u1 tv1 tu1 p1
    have h2 := hd_size b v2 u2 tv2 tu2 p2
    simp only [sz]
    rcases h1 with rfl | h1 <;> rcases h2 with rfl | h2
    · exact .inl rfl
    · exact .inr (by omega)
    · exact .inr (by omega)
    · exact .inr (by omega)
  | .either a b, v, u, tv, tu, h => by
    have nRL : ¬ (sR : Str) = sL := by decide +kernel
    have nLR : ¬ (sL : Str) = sR := by decide +kernel
    rcases h with ⟨x, y, rfl, rfl, h⟩ | ⟨x, y, rfl, rfl, h⟩
    · have tx : T a x := by
        rcases tv with ⟨_, e, t⟩ | ⟨_, e, t⟩
        · cases e; exact t
        · simp only [PyData.tuple.injEq, List.cons.injEq, PyData.str.injEq] at e; exact absurd e.1 nLR
      have ty : T a y := by
        rcases tu with ⟨_, e, t⟩ | ⟨_, e, t⟩
        · cases e; exact t
        · simp only [PyData.tuple.injEq, List.cons.injEq, PyData.str.injEq] at e; exact absurd e.1 nLR
      simp only [sz, if_pos]
      rcases hd_size a x y tx ty h with rfl | h
      · exact .inl rfl
      · exact .inr h
    · have tx : T b x := by
        rcases tv with ⟨_, e, t⟩ | ⟨_, e, t⟩
        · simp only [PyData.tuple.injEq, List.cons.injEq, PyData.str.injEq] at e; exact absurd e.1 nRL
        · cases e; exact t
      have ty : T b y := by
        rcases tu with ⟨_, e, t⟩ | ⟨_, e, t⟩
        · simp only [PyData.tuple.injEq, List.cons.injEq, PyData.str.injEq] at e; exact absurd e.1 nRL
        · cases e; exact t
      simp only [sz, if_neg nRL]
      rcases hd_size b x y tx ty h with rfl | h
      · exact .inl rfl
      · exact .inr h
  | .lane a, v, u, tv, tu, h => by
    obtain ⟨vs, us, rfl, rfl, ps, up, e⟩ := h
    obtain ⟨_, q, lv, tv⟩ := tv
    cases q
    obtain ⟨_, q, lu, tu⟩ := tu
    cases q
    simp only [sz]
    rcases emb_size (f := fun x => 1 + sz a x) e up.nodup (fun x y hx hy r => (hd_size a x y (tv x hx) (tu y hy) r).imp id fun z => by omega) (fun _ => by omega) with ⟨h1, h2⟩ | h
    · have hl : ps.length = vs.length := by rw [e.1, h2.length_eq]
      have in_ : ∀ p ∈ ps, 0 ≤ p ∧ p < 0 + ps.length := fun p hp => by
        obtain ⟨k, hk⟩ := List.getElem?_of_mem hp
        have hk' : k < us.length := by rw [← e.1]; exact (List.getElem?_eq_some_iff.mp hk).1
        obtain ⟨u, hu, _⟩ := e.2 k p _ hk (List.getElem?_eq_getElem hk')
        have := (List.getElem?_eq_some_iff.mp hu).1
        omega
      have e2 := up_full ps 0 up in_
      have e3 : us = vs := by
        rw [h1, e2, hl]
        refine List.ext_getElem (by simp) fun i a1 a2 => ?_
        simp [a2]
      exact .inl (by rw [e3])
    · exact .inr h
  | .heap a, v, u, tv, tu, h => by
    obtain ⟨vs, us, rfl, rfl, ps, nd, e⟩ := h
    obtain ⟨_, q, lv, tv, sv⟩ := tv
    cases q
    obtain ⟨_, q, lu, tu, su⟩ := tu
    cases q
    simp only [sz]
    rcases emb_size (f := fun x => 1 + sz a x) e nd (fun x y hx hy r => (hd_size a x y (tv x hx) (tu y hy) r).imp id fun z => by omega) (fun _ => by omega) with ⟨_, h2⟩ | h
    · exact .inl (by rw [sorted_eq h2 tv sv su])
    · exact .inr h
theorem hd_anti {s : S} {v u : PyData} (tv : T s v) (tu : T s u) (h1 : Hd s v u) (h2 : Hd s u v) : v = u := by
  rcases hd_size s v u tv tu h1 with e | e
  · exact e.symm
  · rcases hd_size s u v tu tv h2 with q | q
    · exact q
    · omega
end LB
end
section
set_option Elab.async false
set_option linter.all false
set_option maxRecDepth 100000
set_option maxHeartbeats 4000000
namespace LB
open PySem PySem.W PyProof.Rows

/-- letters that differ, some -/
def Ok : S → Prop
  | .mark ls => ls.Nodup ∧ ls ≠ []
  | .count => True
  | .both a b => Ok a ∧ Ok b
  | .either a b => Ok a ∧ Ok b
  | .lane a => Ok a
  | .heap a => Ok a

theorem nLR : ¬ (sL : Str) = sR := by decide +kernel
theorem nRL : ¬ (sR : Str) = sL := by decide +kernel
/-! ### order of pairs and sides -/
theorem le_sep {s : S} {x y : PyData} (hx : T s x) (hy : T s y) (hne : x ≠ y) (h : Le s x y) : Sep false (keyToks (keyV s y)) (keyToks (keyV s x)) := by
  obtain ⟨b, q, _⟩ := sep_key s y x hy hx (Ne.symm hne)
  have e : dataLt (keyV s y) (keyV s x) = b := sep_lt q
  have e' : dataLt (keyV s y) (keyV s x) = false := h
  rw [e'] at e
  rw [e]
  exact q
theorem le_pair {a b : S} {x y x' y' : PyData} (hx : T a x) (hx' : T a x') (hne : x ≠ x') (h : Le a x x') : Le (.both a b) (.tuple [x, y]) (.tuple [x', y']) := by
  have q := le_sep hx hx' hne h
  refine sep_lt ?_
  simp only [keyV, toks_tup, toks_cons]
  exact (q.post _ _).pre [_]
theorem le_pair2 {a b : S} {x y y' : PyData} (hy : T b y) (hy' : T b y') (h : Le b y y') : Le (.both a b) (.tuple [x, y]) (.tuple [x, y']) := by
  rcases Classical.em (y = y') with e | e
  · rw [e]; exact Le.refl _ _
  · have q := le_sep hy hy' e h
    refine sep_lt ?_
    simp only [keyV, toks_tup, toks_cons]
    exact (((q.post _ _).pre [_]).pre (keyToks (keyV a x))).pre [_]
theorem le_left {a b : S} {x y : PyData} (hx : T a x) (hy : T a y) (h : Le a x y) : Le (.either a b) (.tuple [.str sL, x]) (.tuple [.str sL, y]) := by
  rcases Classical.em (x = y) with e | e
  · rw [e]; exact Le.refl _ _
  · have q := le_sep hx hy e h
    refine sep_lt ?_
    simp only [keyV, if_pos, toks_tup, toks_cons, toks_int]
    exact (((q.post _ _).pre [_]).pre [_]).pre [_]
theorem le_right {a b : S} {x y : PyData} (hx : T b x) (hy : T b y) (h : Le b x y) : Le (.either a b) (.tuple [.str sR, x]) (.tuple [.str sR, y]) := by
  rcases Classical.em (x = y) with e | e
  · rw [e]; exact Le.refl _ _
  · have q := le_sep hx hy e h
    refine sep_lt ?_
    simp only [keyV, if_neg nRL, toks_tup, toks_cons, toks_int]
    exact (((q.post _ _).pre [_]).pre [_]).pre [_]
theorem le_lr {a b : S} {x y : PyData} : Le (.either a b) (.tuple [.str sL, x]) (.tuple [.str sR, y]) := by
  refine sep_lt ?_
  simp only [keyV, if_pos, if_neg nRL, toks_tup, toks_cons, toks_int]
  exact (Sep.ints (by decide : (1 : Int) ≠ 0) _ _).pre [_]

/-! ### the least ones -/
def leastM : S → List PyData
  | .mark ls => ls.map .str
  | .count => [.int 0]
  | .both a b => (leastM a).flatMap fun v => (leastM b).map fun w => .tuple [v, w]
  | .either a b => ((leastM a).map fun v => .tuple [.str sL, v]) ++ ((leastM b).map fun v => .tuple [.str sR, v])
  | .lane _ => [.tuple []]
  | .heap _ => [.tuple []]

theorem least_T : ∀ (s : S) (u : PyData), u ∈ leastM s → T s u
  | .mark ls, u, h => by
    obtain ⟨x, hx, rfl⟩ := List.mem_map.mp h
    exact ⟨x, hx, rfl⟩
  | .count, u, h => by
    rw [List.mem_singleton.mp h]
    exact ⟨0, by decide, rfl⟩
  | .both a b, u, h => by
    obtain ⟨v, hv, h⟩ := List.mem_flatMap.mp h
    obtain ⟨w, hw, rfl⟩ := List.mem_map.mp h
    exact ⟨v, w, rfl, least_T a v hv, least_T b w hw⟩
  | .either a b, u, h => by
    rcases List.mem_append.mp h with h | h
    · obtain ⟨w, hw, rfl⟩ := List.mem_map.mp h
      exact .inl ⟨w, rfl, least_T a w hw⟩
    · obtain ⟨w, hw, rfl⟩ := List.mem_map.mp h
      exact .inr ⟨w, rfl, least_T b w hw⟩
  | .lane a, u, h => by
    rw [List.mem_singleton.mp h]
    exact ⟨[], rfl, by decide, fun x hx => by cases hx⟩
  | .heap a, u, h => by
    rw [List.mem_singleton.mp h]
    exact ⟨[], rfl, by decide, fun x hx => by (cases hx), .nil⟩
theorem emb_nil {R : PyData → PyData → Prop} (vs : List PyData) : Emb R vs [] [] := ⟨rfl, fun k p u h => by simp at h⟩
theorem least_below : ∀ (s : S) (v : PyData), T s v → ∃ u, u ∈ leastM s ∧ Hd s v u
  | .mark ls, v, h => by
    obtain ⟨x, hx, rfl⟩ := h
    exact ⟨_, List.mem_map.mpr ⟨x, hx, rfl⟩, rfl⟩
  | .count, v, h => by
    obtain ⟨n, _, rfl⟩ := h
    exact ⟨_, List.mem_singleton.mpr rfl, n, 0, rfl, rfl, by omega⟩
  | .both a b, v, h => by
    obtain ⟨x, y, rfl, h1, h2⟩ := h
    obtain ⟨u, hu, q1⟩ := least_below a x h1
    obtain ⟨w, hw, q2⟩ := least_below b y h2
    exact ⟨_, List.mem_flatMap.mpr ⟨u, hu, List.mem_map.mpr ⟨w, hw, rfl⟩⟩, x, y, u, w, rfl, rfl, q1, q2⟩
  | .either a b, v, h => by
    rcases h with ⟨x, rfl, h⟩ | ⟨x, rfl, h⟩
    · obtain ⟨u, hu, q⟩ := least_below a x h
      exact ⟨_, List.mem_append_left _ (List.mem_map.mpr ⟨u, hu, rfl⟩), .inl ⟨x, u, rfl, rfl, q⟩⟩
    · obtain ⟨u, hu, q⟩ := least_below b x h
      exact ⟨_, List.mem_append_right _ (List.mem_map.mpr ⟨u, hu, rfl⟩), .inr ⟨x, u, rfl, rfl, q⟩⟩
  | .lane a, v, h => by
    obtain ⟨xs, rfl, _⟩ := h
    exact ⟨_, List.mem_singleton.mpr rfl, xs, [], rfl, rfl, [], .nil, emb_nil _⟩
  | .heap a, v, h => by
    obtain ⟨xs, rfl, _⟩ := h
    exact ⟨_, List.mem_singleton.mpr rfl, xs, [], rfl, rfl, [], .nil, emb_nil _⟩
theorem emb_of_nil {R : PyData → PyData → Prop} {us : List PyData} {ps : List Nat} (e : Emb R [] us ps) : us = [] := by
  cases us with
  | nil => rfl
  | cons u us =>
    have hl := e.1
    cases ps with
    | nil => simp at hl
    | cons p ps =>
      obtain ⟨v, hv, _⟩ := e.2 0 p u rfl rfl
      simp at hv
theorem least_min : ∀ (s : S) (u w : PyData), u ∈ leastM s → T s w → Hd s u w → w = u
  | .mark ls, u, w, _, _, h => Eq.symm h
  | .count, u, w, hu, hw, h => by
    rw [List.mem_singleton.mp hu] at h ⊢
    obtain ⟨n, _, rfl⟩ := hw
    obtain ⟨m, n', e1, e2, h⟩ := h
    cases e1
    cases e2
    have : n = 0 := by omega
    rw [this]; rfl
  | .both a b, u, w, hu, hw, h => by
    obtain ⟨x, hx, hu⟩ := List.mem_flatMap.mp hu
    obtain ⟨y, hy, rfl⟩ := List.mem_map.mp hu
    obtain ⟨w1, w2, rfl, t1, t2⟩ := hw
    obtain ⟨_, _, _, _, e1, e2, q1, q2⟩ := h
    cases e1
    cases e2
    rw [least_min a x w1 hx t1 q1, least_min b y w2 hy t2 q2]
  | .either a b, u, w, hu, hw, h => by
    rcases List.mem_append.mp hu with hu | hu
    · obtain ⟨x, hx, rfl⟩ := List.mem_map.mp hu
      rcases h with ⟨x', y', e1, rfl, q⟩ | ⟨x', y', e1, rfl, q⟩
      · cases e1
        rcases hw with ⟨_, e, t⟩ | ⟨_, e, t⟩
        · cases e; rw [least_min a x _ hx t q]
        · simp only [PyData.tuple.injEq, List.cons.injEq, PyData.str.injEq] at e; exact absurd e.1 nLR
      · simp only [PyData.tuple.injEq, List.cons.injEq, PyData.str.injEq] at e1; exact absurd e1.1 nLR
    · obtain ⟨x, hx, rfl⟩ := List.mem_map.mp hu
      rcases h with ⟨x', y', e1, rfl, q⟩ | ⟨x', y', e1, rfl, q⟩
      · simp only [PyData.tuple.injEq, List.cons.injEq, PyData.str.injEq] at e1; exact absurd e1.1 nRL
      · cases e1
        rcases hw with ⟨_, e, t⟩ | ⟨_, e, t⟩
        · simp only [PyData.tuple.injEq, List.cons.injEq, PyData.str.injEq] at e; exact absurd e.1 nRL
        · cases e; rw [least_min b x _ hx t q]
  | .lane a, u, w, hu, hw, h => by
    rw [List.mem_singleton.mp hu] at h ⊢
    obtain ⟨vs, us, e1, rfl, ps, _, e⟩ := h
    cases e1
    rw [emb_of_nil e]
  | .heap a, u, w, hu, hw, h => by
    rw [List.mem_singleton.mp hu] at h ⊢
    obtain ⟨vs, us, e1, rfl, ps, _, e⟩ := h
    cases e1
    rw [emb_of_nil e]
theorem nodup_map_of {α β : Type} {f : α → β} (hf : ∀ x y, f x = f y → x = y) {l : List α} (h : l.Nodup) : (l.map f).Nodup := by
  unfold List.Nodup
  rw [List.pairwise_map]
  exact List.Pairwise.imp (fun h q => h (hf _ _ q)) h
theorem least_nodup : ∀ (s : S), Ok s → (leastM s).Nodup
  | .mark ls, h => nodup_map_of (fun x y q => by cases q; rfl) h.1
  | .count, _ => by simp [leastM]
  | .both a b, h => by
    have h1 := least_nodup a h.1
    have h2 := least_nodup b h.2
    show ((leastM a).flatMap fun v => (leastM b).map fun w => PyData.tuple [v, w]).Nodup
    generalize leastM a = A at h1
    induction A with
    | nil => exact .nil
    | cons x A ih =>
      obtain ⟨n1, n2⟩ := List.nodup_cons.mp h1
      rw [List.flatMap_cons]
      refine List.nodup_append.mpr ⟨nodup_map_of (fun x y q => by cases q; rfl) h2, ih n2, ?_⟩
      intro u hu w hw e
      obtain ⟨y, _, rfl⟩ := List.mem_map.mp hu
      obtain ⟨x', hx', hw⟩ := List.mem_flatMap.mp hw
      obtain ⟨y', _, rfl⟩ := List.mem_map.mp hw
      cases e
      exact n1 hx'
  | .either a b, h => by
    refine List.nodup_append.mpr ⟨nodup_map_of (fun x y q => by cases q; rfl) (least_nodup a h.1), nodup_map_of (fun x y q => by cases q; rfl) (least_nodup b h.2), ?_⟩
    intro u hu w hw e
    obtain ⟨y, _, rfl⟩ := List.mem_map.mp hu
    obtain ⟨y', _, rfl⟩ := List.mem_map.mp hw
    simp only [PyData.tuple.injEq, List.cons.injEq, PyData.str.injEq] at e
    exact nLR e.1
  | .lane a, _ => by simp [leastM]
  | .heap a, _ => by simp [leastM]
theorem marks_sorted (pre : List Str) : ∀ (ls : List Str), (pre ++ ls).Nodup → (ls.map PyData.str).Pairwise (Le (.mark (pre ++ ls)))
  | [], _ => .nil
  | l :: ls, h => by
    have e : pre ++ l :: ls = (pre ++ [l]) ++ ls := by simp
    rw [List.map_cons]
    refine List.pairwise_cons.mpr ⟨fun u hu => ?_, ?_⟩
    · obtain ⟨x, hx, rfl⟩ := List.mem_map.mp hu
      have at_ : ∀ (p r : List Str) (y : Str), y ∉ p → ix (p ++ y :: r) y = p.length := by
        intro p
        induction p with
        | nil => intro r y _; show (if y = y then 0 else _) = 0; rw [if_pos rfl]
        | cons z p ih =>
          intro r y hy
          have h1 : ¬ y = z := fun q => hy (q ▸ List.mem_cons_self)
          show (if y = z then 0 else ix (p ++ y :: r) y + 1) = _
          rw [if_neg h1, ih r y (fun q => hy (List.mem_cons_of_mem _ q)), List.length_cons]
      have ge_ : ∀ (p r : List Str) (y : Str), y ∉ p → p.length ≤ ix (p ++ r) y := by
        intro p
        induction p with
        | nil => intro r y _; exact Nat.zero_le _
        | cons z p ih =>
          intro r y hy
          have h1 : ¬ y = z := fun q => hy (q ▸ List.mem_cons_self)
          show _ ≤ (if y = z then 0 else ix (p ++ r) y + 1)
          rw [if_neg h1, List.length_cons]
          exact Nat.succ_le_succ (ih r y (fun q => hy (List.mem_cons_of_mem _ q)))
      obtain ⟨n1, n2, n3⟩ := List.nodup_append.mp h
      have hlp : l ∉ pre := fun q => n3 l q l List.mem_cons_self rfl
      have hxp : x ∉ pre := fun q => n3 x q x (List.mem_cons_of_mem _ hx) rfl
      show dataLt (keyV _ (.str x)) (keyV _ (.str l)) = false
      have e1 := at_ pre ls l hlp
      have e2 := ge_ pre (l :: ls) x hxp
      simp only [keyV]
      rw [e1]
      show lxl (keyToks _) (keyToks _) = false
      simp only [toks_tup, toks_cons, toks_int, toks_nil]
      refine (lxl_pre [Sum.inl 1] ([Sum.inl ((ix (pre ++ l :: ls) x : Nat) : Int)] ++ [Sum.inl 0]) ([Sum.inl ((pre.length : Nat) : Int)] ++ [Sum.inl 0])).trans ?_
      rcases Classical.em (ix (pre ++ l :: ls) x = pre.length) with q | q
      · rw [q, lxl_pre]; rfl
      · rw [List.singleton_append, List.singleton_append, lxl_ne (by intro z; have := Sum.inl.inj z; omega)]
        show decide (((ix (pre ++ l :: ls) x : Nat) : Int) < ((pre.length : Nat) : Int)) = false
        exact decide_eq_false (by omega)
    · rw [e]
      exact marks_sorted (pre ++ [l]) ls (by rw [← e]; exact h)
theorem least_sorted : ∀ (s : S), Ok s → (leastM s).Pairwise (Le s)
  | .mark ls, h => marks_sorted [] ls h.1
  | .count, _ => List.pairwise_singleton _ _
  | .both a b, h => by
    have s1 := least_sorted a h.1
    have s2 := least_sorted b h.2
    have h1 := least_nodup a h.1
    have t1 : ∀ x ∈ leastM a, T a x := least_T a
    have t2 : ∀ x ∈ leastM b, T b x := least_T b
    show ((leastM a).flatMap fun v => (leastM b).map fun w => PyData.tuple [v, w]).Pairwise _
    generalize leastM a = A at h1 s1 t1
    induction A with
    | nil => exact .nil
    | cons x A ih =>
      obtain ⟨n1, n2⟩ := List.nodup_cons.mp h1
      obtain ⟨p1, p2⟩ := List.pairwise_cons.mp s1
      rw [List.flatMap_cons]
      refine List.pairwise_append.mpr ⟨?_, ih n2 p2 (fun z hz => t1 z (List.mem_cons_of_mem _ hz)), ?_⟩
      · rw [List.pairwise_map]
        exact List.Pairwise.imp_of_mem (fun {u w} hu hw h => le_pair2 (t2 u hu) (t2 w hw) h) s2
      · intro u hu w hw
        obtain ⟨y, _, rfl⟩ := List.mem_map.mp hu
        obtain ⟨x', hx', hw⟩ := List.mem_flatMap.mp hw
        obtain ⟨y', _, rfl⟩ := List.mem_map.mp hw
        exact le_pair (t1 x List.mem_cons_self) (t1 x' (List.mem_cons_of_mem _ hx')) (fun q => n1 (q ▸ hx')) (p1 x' hx')
  | .either a b, h => by
    refine List.pairwise_append.mpr ⟨?_, ?_, ?_⟩
    · rw [List.pairwise_map]
      exact List.Pairwise.imp_of_mem (fun {u w} hu hw h => le_left (least_T a u hu) (least_T a w hw) h) (least_sorted a h.1)
    · rw [List.pairwise_map]
      exact List.Pairwise.imp_of_mem (fun {u w} hu hw h => le_right (least_T b u hu) (least_T b w hw) h) (least_sorted b h.2)
    · intro u hu w hw
      obtain ⟨y, _, rfl⟩ := List.mem_map.mp hu
      obtain ⟨y', _, rfl⟩ := List.mem_map.mp hw
      exact le_lr
  | .lane a, _ => List.pairwise_singleton _ _
  | .heap a, _ => List.pairwise_singleton _ _
end LB
end
section
set_option Elab.async false
set_option linter.all false
set_option maxRecDepth 100000
set_option maxHeartbeats 4000000
namespace LB
open PySem PySem.W PyProof.Rows

/-! ### rows built of a lane's or heap's parts -/
def SubE (R : PyData → PyData → Prop) (vs us : List PyData) : Prop := ∃ ps, Up ps ∧ Emb R vs us ps
theorem emb_lt {R : PyData → PyData → Prop} {vs us : List PyData} {ps : List Nat} (e : Emb R vs us ps) : ∀ p ∈ ps, p < vs.length := fun p hp => by
  obtain ⟨k, hk⟩ := List.getElem?_of_mem hp
  have hl : k < us.length := by rw [← e.1]; exact (List.getElem?_eq_some_iff.mp hk).1
  obtain ⟨u, hu, _⟩ := e.2 k p _ hk (List.getElem?_eq_getElem hl)
  exact (List.getElem?_eq_some_iff.mp hu).1
theorem sub_nil {R : PyData → PyData → Prop} {us : List PyData} : SubE R [] us ↔ us = [] :=
  ⟨fun ⟨ps, _, e⟩ => emb_of_nil e, fun h => by subst h; exact ⟨[], .nil, emb_nil _⟩⟩
theorem emb_grow {R : PyData → PyData → Prop} {vs us : List PyData} {ps : List Nat} (e : Emb R vs us ps) (v : PyData) : Emb R (vs ++ [v]) us ps :=
  ⟨e.1, fun k p u h1 h2 => by
    obtain ⟨w, hw, r⟩ := e.2 k p u h1 h2
    exact ⟨w, by rw [List.getElem?_append_left (List.getElem?_eq_some_iff.mp hw).1]; exact hw, r⟩⟩
theorem sub_snoc {R : PyData → PyData → Prop} {vs us : List PyData} {v : PyData} : SubE R (vs ++ [v]) us ↔ SubE R vs us ∨ ∃ us' u, us = us' ++ [u] ∧ SubE R vs us' ∧ R v u := by
  constructor
  · rintro ⟨ps, up, e⟩
    by_cases hin : vs.length ∈ ps
    · -- the last place is the last of ps
      obtain ⟨k, hk⟩ := List.getElem?_of_mem hin
      obtain ⟨hkl, hke⟩ := List.getElem?_eq_some_iff.mp hk
      have last : k + 1 = ps.length := by
        rcases Nat.lt_or_ge (k + 1) ps.length with c | c
        · have h1 := List.pairwise_iff_getElem.mp up k (k + 1) hkl c (Nat.lt_succ_self _)
          have h2 := emb_lt e _ (List.getElem_mem c)
          rw [List.length_append, List.length_singleton] at h2
          omega
        · omega
      have hku : k < us.length := by rw [← e.1]; exact hkl
      have eu : us = us.take k ++ [us[k]] := by
        have z := List.take_append_getElem (l := us) (i := k) hku
        rw [z, List.take_of_length_le (by rw [← e.1]; omega)]
      obtain ⟨w, hw, r⟩ := e.2 k _ _ hk (List.getElem?_eq_getElem hku)
      rw [List.getElem?_append_right (Nat.le_refl _), Nat.sub_self] at hw
      have hwv : v = w := Option.some.inj hw
      refine .inr ⟨us.take k, us[k], eu, ⟨ps.take k, ?_, ?_⟩, hwv ▸ r⟩
      · exact List.Pairwise.sublist (List.take_sublist k ps) up
      · refine ⟨by rw [List.length_take, List.length_take, e.1], fun j p u hj hu => ?_⟩
        have hjk : j < k := by
          have := (List.getElem?_eq_some_iff.mp hj).1
          rw [List.length_take] at this
          omega
        rw [List.getElem?_take_of_lt hjk] at hj hu
        obtain ⟨w2, hw2, r2⟩ := e.2 j p u hj hu
        have hp : p < vs.length := by
          obtain ⟨hjl, hje⟩ := List.getElem?_eq_some_iff.mp hj
          have := List.pairwise_iff_getElem.mp up j k hjl hkl hjk
          omega
        rw [List.getElem?_append_left hp] at hw2
        exact ⟨w2, hw2, r2⟩
    · refine .inl ⟨ps, up, e.1, fun k p u h1 h2 => ?_⟩
      obtain ⟨w, hw, r⟩ := e.2 k p u h1 h2
      have hp := emb_lt e p (List.mem_of_getElem? h1)
      rw [List.length_append, List.length_singleton] at hp
      have hne : p ≠ vs.length := fun q => hin (q ▸ List.mem_of_getElem? h1)
      rw [List.getElem?_append_left (by omega)] at hw
      exact ⟨w, hw, r⟩
  · rintro (⟨ps, up, e⟩ | ⟨us', u, rfl, ⟨ps, up, e⟩, r⟩)
    · exact ⟨ps, up, emb_grow e v⟩
    · refine ⟨ps ++ [vs.length], ?_, ?_, fun k p u' h1 h2 => ?_⟩
      · refine List.pairwise_append.mpr ⟨up, List.pairwise_singleton _ _, fun a ha b hb => ?_⟩
        rw [List.mem_singleton.mp hb]
        exact emb_lt e a ha
      · rw [List.length_append, List.length_append, e.1]; rfl
      · by_cases c : k < ps.length
        · rw [List.getElem?_append_left c] at h1
          rw [List.getElem?_append_left (by rw [← e.1]; exact c)] at h2
          exact (emb_grow e v).2 k p u' h1 h2
        · have hk : k = ps.length := by
            have := (List.getElem?_eq_some_iff.mp h1).1
            rw [List.length_append, List.length_singleton] at this
            omega
          subst hk
          rw [List.getElem?_append_right (Nat.le_refl _), Nat.sub_self] at h1
          rw [e.1, List.getElem?_append_right (Nat.le_refl _), Nat.sub_self] at h2
          have e1 : vs.length = p := Option.some.inj h1
          have e2 : u = u' := Option.some.inj h2
          subst e1
          subst e2
          exact ⟨v, by rw [List.getElem?_append_right (Nat.le_refl _), Nat.sub_self]; rfl, r⟩
theorem sub_len {R : PyData → PyData → Prop} {vs us : List PyData} (h : SubE R vs us) : us.length ≤ vs.length := by
  obtain ⟨ps, up, e⟩ := h
  obtain ⟨rest, hr⟩ := pick_perm ps vs up.nodup (emb_lt e)
  have := hr.length_eq
  rw [List.length_append, List.length_map, e.1] at this
  omega

/-! ### heaps: any order -/
theorem emb_zip {R : PyData → PyData → Prop} {vs us : List PyData} {ps : List Nat} : Emb R vs us ps ↔ ps.length = us.length ∧ ∀ q ∈ ps.zip us, ∃ v, vs[q.1]? = some v ∧ R v q.2 := by
  constructor
  · intro e
    refine ⟨e.1, fun q hq => ?_⟩
    obtain ⟨k, hk⟩ := List.getElem?_of_mem hq
    rw [List.getElem?_zip_eq_some] at hk
    exact e.2 k q.1 q.2 hk.1 hk.2
  · rintro ⟨h1, h2⟩
    refine ⟨h1, fun k p u hp hu => ?_⟩
    exact h2 (p, u) (List.mem_of_getElem? (i := k) (by rw [List.getElem?_zip_eq_some]; exact ⟨hp, hu⟩))
theorem perm_lift {α β : Type} (f : α → β) : ∀ {us us' : List β}, us.Perm us' → ∀ zs : List α, zs.map f = us → ∃ zs' : List α, zs'.Perm zs ∧ zs'.map f = us' := by
  intro us us' h
  induction h with
  | nil =>
    intro zs e
    exact ⟨zs, .refl _, e⟩
  | cons x _ ih =>
    intro zs e
    cases zs with
    | nil => cases e
    | cons z zs =>
      rw [List.map_cons] at e
      injection e with e1 e2
      obtain ⟨ws, p, q⟩ := ih zs e2
      exact ⟨z :: ws, p.cons z, by rw [List.map_cons, e1, q]⟩
  | swap x y l =>
    intro zs e
    match zs, e with
    | [], e => cases e
    | [_], e => simp at e
    | a :: b :: zs, e =>
      simp only [List.map_cons, List.cons.injEq] at e
      exact ⟨b :: a :: zs, List.Perm.swap _ _ _, by simp only [List.map_cons, e.1, e.2.1, e.2.2]⟩
  | trans _ _ i1 i2 =>
    intro zs e
    obtain ⟨ws, p, q⟩ := i1 zs e
    obtain ⟨ws', p', q'⟩ := i2 ws q
    exact ⟨ws', p'.trans p, q'⟩
theorem zip_maps {α β : Type} : ∀ (zs : List (α × β)), (zs.map Prod.fst).zip (zs.map Prod.snd) = zs
  | [] => rfl
  | z :: zs => by simp only [List.map_cons, List.zip_cons_cons, zip_maps zs]
/-- from a row in order to any order of it -/
theorem mat_of_sub {R : PyData → PyData → Prop} {vs us us' : List PyData} (h : SubE R vs us) (p : us.Perm us') : ∃ ps : List Nat, ps.Nodup ∧ Emb R vs us' ps := by
  obtain ⟨ps, up, e⟩ := h
  obtain ⟨hl, hz⟩ := emb_zip.mp e
  obtain ⟨zs', pz, ez⟩ := perm_lift Prod.snd p (ps.zip us) (List.map_snd_zip (by omega))
  have pf : (zs'.map Prod.fst).Perm ps := by
    have := pz.map Prod.fst
    rw [List.map_fst_zip (by omega)] at this
    exact this
  refine ⟨zs'.map Prod.fst, pf.nodup_iff.mpr up.nodup, emb_zip.mpr ⟨?_, fun q hq => ?_⟩⟩
  · rw [← ez, List.length_map, List.length_map]
  · rw [← ez, zip_maps] at hq
    exact hz q (pz.mem_iff.mp hq)
/-- .. and back -/
theorem sub_of_mat {R : PyData → PyData → Prop} {vs us : List PyData} {ps : List Nat} (nd : ps.Nodup) (e : Emb R vs us ps) : ∃ us', us'.Perm us ∧ SubE R vs us' := by
  obtain ⟨hl, hz⟩ := emb_zip.mp e
  have pz := List.mergeSort_perm (ps.zip us) (fun a b => decide (a.1 ≤ b.1))
  have sz : ((ps.zip us).mergeSort fun a b => decide (a.1 ≤ b.1)).Pairwise fun a b => decide (a.1 ≤ b.1) = true :=
    List.pairwise_mergeSort (fun a b c h1 h2 => by simp only [decide_eq_true_eq] at *; omega) (fun a b => by simp only [Bool.or_eq_true, decide_eq_true_eq]; omega) _
  generalize hzs : (ps.zip us).mergeSort (fun a b => decide (a.1 ≤ b.1)) = zs at pz sz
  have pf : (zs.map Prod.fst).Perm ps := by
    have := pz.map Prod.fst
    rw [List.map_fst_zip (by omega)] at this
    exact this
  have ps' : (zs.map Prod.snd).Perm us := by
    have := pz.map Prod.snd
    rw [List.map_snd_zip (by omega)] at this
    exact this
  refine ⟨zs.map Prod.snd, ps', zs.map Prod.fst, ?_, emb_zip.mpr ⟨by rw [List.length_map, List.length_map], fun q hq => ?_⟩⟩
  · have h1 : (zs.map Prod.fst).Pairwise (· ≤ ·) := by
      rw [List.pairwise_map]
      exact List.Pairwise.imp (fun h => of_decide_eq_true h) sz
    have h2 : (zs.map Prod.fst).Nodup := pf.nodup_iff.mpr nd
    exact (List.Pairwise.and h1 h2).imp fun ⟨a, b⟩ => Nat.lt_of_le_of_ne a b
  · rw [zip_maps] at hq
    exact hz q (pz.mem_iff.mp hq)

/-! ### how many -/
def prod : List Nat → Nat
  | [] => 1
  | x :: xs => x * prod xs
def cap : S → PyData → Nat
  | .mark _, _ => 1
  | .count, .int n => n.toNat + 1
  | .both a b, .tuple [x, y] => cap a x * cap b y
  | .either a b, .tuple [.str s, x] => if s = sL then cap a x else cap b x
  | .lane a, .tuple xs => prod (xs.map fun x => 1 + cap a x)
  | .heap a, .tuple xs => prod (xs.map fun x => 1 + cap a x)
  | _, _ => 1
theorem prod_snoc : ∀ (xs : List Nat) (y : Nat), prod (xs ++ [y]) = prod xs * y
  | [], y => by simp [prod]
  | x :: xs, y => by rw [List.cons_append, prod, prod, prod_snoc xs y, Nat.mul_assoc]
theorem prod_pos : ∀ (xs : List Nat), (∀ x ∈ xs, 1 ≤ x) → 1 ≤ prod xs
  | [], _ => Nat.le_refl _
  | x :: xs, h => by
    have h1 := h x List.mem_cons_self
    have h2 := prod_pos xs fun z hz => h z (List.mem_cons_of_mem _ hz)
    rw [prod]
    exact Nat.mul_pos h1 h2
theorem cap_pos : ∀ (s : S) (v : PyData), T s v → 1 ≤ cap s v
  | .mark _, v, _ => Nat.le_refl _
  | .count, v, h => by obtain ⟨n, _, rfl⟩ := h; exact Nat.succ_pos _
  | .both a b, v, h => by
    obtain ⟨x, y, rfl, h1, h2⟩ := h
    exact Nat.mul_pos (cap_pos a x h1) (cap_pos b y h2)
  | .either a b, v, h => by
    rcases h with ⟨x, rfl, h⟩ | ⟨x, rfl, h⟩
    · simp only [cap, if_pos]; exact cap_pos a x h
    · simp only [cap, if_neg nRL]; exact cap_pos b x h
  | .lane a, v, h => by
    obtain ⟨xs, rfl, _, _⟩ := h
    refine prod_pos _ fun z hz => ?_
    obtain ⟨x, _, rfl⟩ := List.mem_map.mp hz
    omega
  | .heap a, v, h => by
    obtain ⟨xs, rfl, _, _, _⟩ := h
    refine prod_pos _ fun z hz => ?_
    obtain ⟨x, _, rfl⟩ := List.mem_map.mp hz
    omega
theorem prod_le_of_mem : ∀ (xs : List Nat) (x : Nat), (∀ z ∈ xs, 1 ≤ z) → x ∈ xs → x ≤ prod xs
  | y :: xs, x, h, hx => by
    have h1 := h y List.mem_cons_self
    have h2 := prod_pos xs fun z hz => h z (List.mem_cons_of_mem _ hz)
    rw [prod]
    rcases List.mem_cons.mp hx with e | hx
    · rw [e]; exact Nat.le_mul_of_pos_right _ h2
    · have ih := prod_le_of_mem xs x (fun z hz => h z (List.mem_cons_of_mem _ hz)) hx
      exact Nat.le_trans ih (Nat.le_mul_of_pos_left _ h1)

/-! ### values before their heap is sorted -/
def PT : S → PyData → Prop
  | .heap a, d => ∃ xs, d = .tuple xs ∧ xs.length ≤ 3 ∧ ∀ x ∈ xs, T a x
  | s, d => T s d
/-- d' is d with its heap sorted -/
def FormR : S → PyData → PyData → Prop
  | .heap a, d, d' => ∃ xs ys, d = .tuple xs ∧ d' = .tuple ys ∧ ys.Perm xs ∧ ys.Pairwise (Le a)
  | _, d, d' => d' = d
theorem T.pt {s : S} {d : PyData} (h : T s d) : PT s d := by
  cases s with
  | heap a => obtain ⟨xs, e, l, t, _⟩ := h; exact ⟨xs, e, l, t⟩
  | _ => exact h
theorem FormR.t {s : S} {d d' : PyData} (h : PT s d) (f : FormR s d d') : T s d' := by
  cases s with
  | heap a =>
    obtain ⟨xs, rfl, l, t⟩ := h
    obtain ⟨xs', ys, e, rfl, p, q⟩ := f
    cases e
    exact ⟨ys, rfl, by rw [p.length_eq]; exact l, fun x hx => t x (p.mem_iff.mp hx), q⟩
  | _ =>
    have e : d' = d := f
    rw [e]; exact h
theorem FormR.same {s : S} {d d' : PyData} (h : T s d) (f : FormR s d d') : d' = d := by
  cases s with
  | heap a =>
    obtain ⟨xs, rfl, l, t, q0⟩ := h
    obtain ⟨xs', ys, e, rfl, p, q⟩ := f
    cases e
    rw [sorted_eq p.symm t q0 q]
  | _ => exact f

/-- what stands beneath v -/
def Ben (s : S) (v u : PyData) : Prop := T s u ∧ Hd s v u
structure BenOk (s : S) (v : PyData) (ds : List PyData) : Prop where
  mem : ∀ u, u ∈ ds ↔ Ben s v u
  ord : ds.Pairwise (Le s)
  len : ds.length ≤ cap s v
theorem ben_mark {ls : List Str} {v : PyData} (h : T (.mark ls) v) (u : PyData) : u ∈ [v] ↔ Ben (.mark ls) v u := by
  rw [List.mem_singleton]
  constructor
  · rintro rfl; exact ⟨h, rfl⟩
  · rintro ⟨_, e⟩; exact Eq.symm e
theorem ben_count {n : Nat} (hn : n ≤ 3) (u : PyData) : u ∈ (List.range (n + 1)).map (fun k => PyData.int (k : Nat)) ↔ Ben .count (.int (n : Nat)) u := by
  rw [List.mem_map]
  constructor
  · rintro ⟨k, hk, rfl⟩
    have hk' := List.mem_range.mp hk
    exact ⟨⟨k, by omega, rfl⟩, n, k, rfl, rfl, by omega⟩
  · rintro ⟨⟨k, _, rfl⟩, m, k', e1, e2, h⟩
    cases e1
    cases e2
    exact ⟨k, List.mem_range.mpr (by omega), rfl⟩
theorem ben_both {a b : S} {x y : PyData} {A B : List PyData} (hA : ∀ u, u ∈ A ↔ Ben a x u) (hB : ∀ u, u ∈ B ↔ Ben b y u) (u : PyData) :
    u ∈ A.flatMap (fun p => B.map fun q => PyData.tuple [p, q]) ↔ Ben (.both a b) (.tuple [x, y]) u := by
  rw [List.mem_flatMap]
  constructor
  · rintro ⟨p, hp, h⟩
    obtain ⟨q, hq, rfl⟩ := List.mem_map.mp h
    obtain ⟨t1, h1⟩ := (hA p).mp hp
    obtain ⟨t2, h2⟩ := (hB q).mp hq
    exact ⟨⟨p, q, rfl, t1, t2⟩, x, y, p, q, rfl, rfl, h1, h2⟩
  · rintro ⟨⟨p, q, rfl, t1, t2⟩, _, _, _, _, e1, e2, h1, h2⟩
    cases e1
    cases e2
    exact ⟨p, (hA p).mpr ⟨t1, h1⟩, List.mem_map.mpr ⟨q, (hB q).mpr ⟨t2, h2⟩, rfl⟩⟩
theorem ben_left {a b : S} {x : PyData} {A : List PyData} (hA : ∀ u, u ∈ A ↔ Ben a x u) (u : PyData) : u ∈ A.map (fun p => PyData.tuple [.str sL, p]) ↔ Ben (.either a b) (.tuple [.str sL, x]) u := by
  rw [List.mem_map]
  constructor
  · rintro ⟨p, hp, rfl⟩
    obtain ⟨t, h⟩ := (hA p).mp hp
    exact ⟨.inl ⟨p, rfl, t⟩, .inl ⟨x, p, rfl, rfl, h⟩⟩
  · rintro ⟨t, ⟨x', p, e1, rfl, h⟩ | ⟨x', p, e1, rfl, h⟩⟩
    · cases e1
      rcases t with ⟨_, e, t⟩ | ⟨_, e, t⟩
      · cases e; exact ⟨p, (hA p).mpr ⟨t, h⟩, rfl⟩
      · simp only [PyData.tuple.injEq, List.cons.injEq, PyData.str.injEq] at e; exact absurd e.1 nLR
    · simp only [PyData.tuple.injEq, List.cons.injEq, PyData.str.injEq] at e1; exact absurd e1.1 nLR
theorem ben_right {a b : S} {x : PyData} {A : List PyData} (hA : ∀ u, u ∈ A ↔ Ben b x u) (u : PyData) : u ∈ A.map (fun p => PyData.tuple [.str sR, p]) ↔ Ben (.either a b) (.tuple [.str sR, x]) u := by
  rw [List.mem_map]
  constructor
  · rintro ⟨p, hp, rfl⟩
    obtain ⟨t, h⟩ := (hA p).mp hp
    exact ⟨.inr ⟨p, rfl, t⟩, .inr ⟨x, p, rfl, rfl, h⟩⟩
  · rintro ⟨t, ⟨x', p, e1, rfl, h⟩ | ⟨x', p, e1, rfl, h⟩⟩
    · simp only [PyData.tuple.injEq, List.cons.injEq, PyData.str.injEq] at e1; exact absurd e1.1 nRL
    · cases e1
      rcases t with ⟨_, e, t⟩ | ⟨_, e, t⟩
      · simp only [PyData.tuple.injEq, List.cons.injEq, PyData.str.injEq] at e; exact absurd e.1 nRL
      · cases e; exact ⟨p, (hA p).mpr ⟨t, h⟩, rfl⟩
/-- the rows of a lane's or heap's parts: typed, and each a sub-row -/
def Rows (a : S) (vs : List PyData) (rs : List PyData) : Prop := ∀ r, r ∈ rs ↔ ∃ us, r = .tuple us ∧ (∀ u ∈ us, T a u) ∧ SubE (Hd a) vs us
theorem rows_nil (a : S) : Rows a [] [.tuple []] := fun r => by
  rw [List.mem_singleton]
  constructor
  · rintro rfl; exact ⟨[], rfl, fun u hu => (by cases hu), sub_nil.mpr rfl⟩
  · rintro ⟨us, rfl, _, h⟩; rw [sub_nil.mp h]
/-- the row with one more -/
def addU (r u : PyData) : PyData := match r with
  | .tuple us => .tuple (us ++ [u])
  | d => d
theorem rows_snoc {a : S} {vs rs : List PyData} {v : PyData} {A : List PyData} (h : Rows a vs rs) (hA : ∀ u, u ∈ A ↔ Ben a v u) : Rows a (vs ++ [v]) (rs ++ A.flatMap fun u => rs.map fun r => addU r u) := fun r => by
  rw [List.mem_append, List.mem_flatMap]
  constructor
  · rintro (hr | ⟨u, hu, hr⟩)
    · obtain ⟨us, e, t, q⟩ := (h r).mp hr
      exact ⟨us, e, t, sub_snoc.mpr (.inl q)⟩
    · obtain ⟨r0, hr0, rfl⟩ := List.mem_map.mp hr
      obtain ⟨us, rfl, t, q⟩ := (h r0).mp hr0
      obtain ⟨tu, hu⟩ := (hA u).mp hu
      refine ⟨us ++ [u], rfl, fun z hz => ?_, sub_snoc.mpr (.inr ⟨us, u, rfl, q, hu⟩)⟩
      rcases List.mem_append.mp hz with hz | hz
      · exact t z hz
      · rw [List.mem_singleton.mp hz]; exact tu
  · rintro ⟨us, rfl, t, q⟩
    rcases sub_snoc.mp q with q | ⟨us', u, rfl, q, r⟩
    · exact .inl ((h _).mpr ⟨us, rfl, t, q⟩)
    · exact .inr ⟨u, (hA u).mpr ⟨t u (by simp), r⟩, List.mem_map.mpr ⟨.tuple us', (h _).mpr ⟨us', rfl, fun z hz => t z (List.mem_append_left _ hz), q⟩, rfl⟩⟩
theorem rows_len {rs A : List PyData} : (rs ++ A.flatMap fun u => rs.map fun r => addU r u).length = rs.length * (1 + A.length) := by
  have : (A.flatMap fun u => rs.map fun r => addU r u).length = A.length * rs.length := by
    induction A with
    | nil => simp
    | cons x A ih => rw [List.flatMap_cons, List.length_append, ih, List.length_map, List.length_cons, Nat.succ_mul, Nat.add_comm]
  rw [List.length_append, this, Nat.mul_add, Nat.mul_one, Nat.mul_comm]
theorem rows_pt {a : S} {vs rs : List PyData} (h : Rows a vs rs) (hl : vs.length ≤ 3) : ∀ r ∈ rs, PT (.lane a) r ∧ PT (.heap a) r := fun r hr => by
  obtain ⟨us, rfl, t, q⟩ := (h r).mp hr
  have := sub_len q
  exact ⟨⟨us, rfl, by omega, t⟩, us, rfl, by omega, t⟩
theorem ben_lane {a : S} {vs rs : List PyData} (h : Rows a vs rs) (hl : vs.length ≤ 3) (u : PyData) : u ∈ rs ↔ Ben (.lane a) (.tuple vs) u := by
  rw [h u]
  constructor
  · rintro ⟨us, rfl, t, q⟩
    have := sub_len q
    exact ⟨⟨us, rfl, by omega, t⟩, vs, us, rfl, rfl, q⟩
  · rintro ⟨⟨us, rfl, _, t⟩, _, _, e1, e2, q⟩
    cases e1
    cases e2
    exact ⟨us, rfl, t, q⟩
/-- ds: each row with its heap sorted -/
theorem ben_heap {a : S} {vs rs ds : List PyData} (h : Rows a vs rs) (hl : vs.length ≤ 3) (h1 : ∀ d ∈ ds, ∃ r ∈ rs, FormR (.heap a) r d) (h2 : ∀ r ∈ rs, ∃ d ∈ ds, FormR (.heap a) r d) (u : PyData) : u ∈ ds ↔ Ben (.heap a) (.tuple vs) u := by
  constructor
  · intro hu
    obtain ⟨r, hr, f⟩ := h1 u hu
    have t := FormR.t (rows_pt h hl r hr).2 f
    obtain ⟨us, rfl, _, q⟩ := (h r).mp hr
    obtain ⟨xs, ys, e, rfl, p, _⟩ := f
    cases e
    exact ⟨t, vs, ys, rfl, rfl, mat_of_sub q p.symm⟩
  · rintro ⟨⟨us, rfl, hul, t, so⟩, _, _, e1, e2, ps, nd, e⟩
    cases e1
    cases e2
    obtain ⟨us', p, q⟩ := sub_of_mat nd e
    have hr : PyData.tuple us' ∈ rs := (h _).mpr ⟨us', rfl, fun z hz => t z (p.mem_iff.mp hz), q⟩
    obtain ⟨d, hd, f⟩ := h2 _ hr
    obtain ⟨xs, ys, e3, rfl, p2, q2⟩ := f
    cases e3
    rw [sorted_eq (p.symm.trans p2.symm) t so q2]
    exact hd
end LB
end
section
set_option Elab.async false
set_option linter.all false
set_option maxRecDepth 100000
set_option maxHeartbeats 4000000
namespace LB
open PySem PySem.W PyProof.Rows

/-! ### the matching, as the program does it -/
abbrev AL := List (Nat × Nat)
def getA (g : AL) (p : Nat) : Option Nat := (g.find? fun q => decide (q.1 = p)).map (·.2)
def putA (g : AL) (p e : Nat) : AL := if (g.any fun q => decide (q.1 = p)) = true then g.map (fun q => if q.1 = p then (p, e) else q) else g ++ [(p, e)]
abbrev Fr3 := Bool × AL × List Nat
/-- one def's loop; rec: the def itself -/
def loopM (rec : AL → List Nat → Nat → Option Fr3) (e : Nat) : List Nat → AL → List Nat → Option Fr3
  | [], g, s => some (false, g, s)
  | p :: ps, g, s =>
    if p ∈ s then loopM rec e ps g s else
    match getA g p with
    | none => some (true, putA g p e, s ++ [p])
    | some e' => match rec g (s ++ [p]) e' with
      | none => none
      | some (true, g', s') => some (true, putA g' p e, s')
      | some (false, g', s') => loopM rec e ps g' s'
def freedM (rows : List (List Nat)) : Nat → AL → List Nat → Nat → Option Fr3
  | 0, _, _, _ => none
  | n + 1, g, s, e => loopM (freedM rows n) e (rows.getD e []) g s
def fuelM : Nat := 5
/-- the bools of can_be_placed's list -/
def cansM (rows : List (List Nat)) : Nat → Nat → AL → Option (List Bool)
  | 0, _, _ => some []
  | k + 1, e, g => match freedM rows fuelM g [] e with
    | none => none
    | some (b, g', _) => (cansM rows k (e + 1) g').map (b :: ·)
def canM (rows : List (List Nat)) : Option Bool := (cansM rows rows.length 0 []).map fun bs => bs.all id
def dropP (p : Nat) (rows : List (List Nat)) : List (List Nat) := rows.map fun r => r.filter fun q => decide (q ≠ p)
/-- the inner loop: the first place that leaves the rest placed; with it the rows from then on -/
def pickM (rows : List (List Nat)) (e : Nat) : List Nat → Option (Option (Nat × List (List Nat)))
  | [] => some none
  | p :: ps => match canM (dropP p (rows.drop (e + 1))) with
    | none => none
    | some true => some (some (p, rows.take (e + 1) ++ dropP p (rows.drop (e + 1))))
    | some false => pickM rows e ps
/-- the outer loop -/
def outM : Nat → Nat → List (List Nat) → List Nat → Option (List Nat)
  | 0, _, _, found => some found
  | k + 1, e, rows, found => match pickM rows e (rows.getD e []) with
    | none => none
    | some none => outM k (e + 1) rows found
    | some (some (p, rows')) => outM k (e + 1) rows' (found ++ [p])
def unlikeM (rows : List (List Nat)) : Option (Option (List Nat)) := match canM rows with
  | none => none
  | some false => some none
  | some true => (outM rows.length 0 rows []).map some

/-! ### checked at all rows of at most three, places below three -/
def allRow : List (List Nat) := [[], [0], [1], [2], [0, 1], [0, 2], [1, 2], [0, 1, 2]]
def allRows : List (List (List Nat)) := [] :: (allRow.map (fun a => [a]) ++ allRow.flatMap (fun a => allRow.map fun b => [a, b]) ++ allRow.flatMap fun a => allRow.flatMap fun b => allRow.map fun c => [a, b, c])
def choices : List (List Nat) → List (List Nat)
  | [] => [[]]
  | r :: rs => r.flatMap fun p => (choices rs).map fun ps => p :: ps
def okU (rows : List (List Nat)) : Bool := match unlikeM rows with
  | none => false
  | some none => (choices rows).all fun ps => !decide ps.Nodup
  | some (some ps) => decide (ps ∈ choices rows) && decide ps.Nodup
theorem okU_all : (allRows.all okU) = true := by decide +kernel
theorem canM_all : (allRows.all fun rows => (canM rows).isSome) = true := by decide +kernel
theorem mem_allRows : ∀ {rows : List (List Nat)}, rows.length ≤ 3 → (∀ r ∈ rows, r ∈ allRow) → rows ∈ allRows
  | [], _, _ => List.mem_cons_self
  | [a], _, h => List.mem_cons_of_mem _ (List.mem_append_left _ (List.mem_append_left _ (List.mem_map.mpr ⟨a, h a (by simp), rfl⟩)))
  | [a, b], _, h => List.mem_cons_of_mem _ (List.mem_append_left _ (List.mem_append_right _ (List.mem_flatMap.mpr ⟨a, h a (by simp), List.mem_map.mpr ⟨b, h b (by simp), rfl⟩⟩)))
  | [a, b, c], _, h => List.mem_cons_of_mem _ (List.mem_append_right _ (List.mem_flatMap.mpr ⟨a, h a (by simp), List.mem_flatMap.mpr ⟨b, h b (by simp), List.mem_map.mpr ⟨c, h c (by simp), rfl⟩⟩⟩))
  | _ :: _ :: _ :: _ :: _, h, _ => by simp at h
theorem mem_choices : ∀ {rows : List (List Nat)} {ps : List Nat}, ps ∈ choices rows ↔ ps.length = rows.length ∧ ∀ (k p : Nat) (r : List Nat), ps[k]? = some p → rows[k]? = some r → p ∈ r
  | [], ps => by
    show ps ∈ [[]] ↔ _
    rw [List.mem_singleton]
    constructor
    · rintro rfl; exact ⟨rfl, fun k p r h => by simp at h⟩
    · rintro ⟨h, _⟩; exact List.length_eq_zero_iff.mp (by simpa using h)
  | r :: rs, ps => by
    show ps ∈ (r.flatMap fun p => (choices rs).map fun ps => p :: ps) ↔ _
    rw [List.mem_flatMap]
    constructor
    · rintro ⟨p, hp, h⟩
      obtain ⟨qs, hq, rfl⟩ := List.mem_map.mp h
      obtain ⟨h1, h2⟩ := mem_choices.mp hq
      refine ⟨by simp [h1], fun k p' r' hk hr => ?_⟩
      cases k with
      | zero => simp at hk hr; subst hk; subst hr; exact hp
      | succ k => exact h2 k p' r' (by simpa using hk) (by simpa using hr)
    · rintro ⟨h1, h2⟩
      cases ps with
      | nil => simp at h1
      | cons p ps =>
        refine ⟨p, h2 0 p r rfl rfl, List.mem_map.mpr ⟨ps, mem_choices.mpr ⟨by simpa using h1, fun k p' r' hk hr => h2 (k + 1) p' r' (by simpa using hk) (by simpa using hr)⟩, rfl⟩⟩
/-- what unlike_places answers -/
inductive PlacesOk (rows : List (List Nat)) : Option (List Nat) → Prop
  | no : (∀ ps : List Nat, ps.Nodup → ¬ (ps.length = rows.length ∧ ∀ (k p : Nat) (r : List Nat), ps[k]? = some p → rows[k]? = some r → p ∈ r)) → PlacesOk rows none
  | yes (ps : List Nat) : ps.Nodup → ps.length = rows.length → (∀ (k p : Nat) (r : List Nat), ps[k]? = some p → rows[k]? = some r → p ∈ r) → PlacesOk rows (some ps)
theorem unlike_ok {rows : List (List Nat)} (h : rows ∈ allRows) : ∃ o, unlikeM rows = some o ∧ PlacesOk rows o := by
  have z := List.all_eq_true.mp okU_all rows h
  unfold okU at z
  cases e : unlikeM rows with
  | none => rw [e] at z; cases z
  | some o =>
    rw [e] at z
    cases o with
    | none =>
      refine ⟨_, rfl, .no fun ps nd hp => ?_⟩
      have := List.all_eq_true.mp z ps (mem_choices.mpr hp)
      rw [decide_eq_true nd] at this
      cases this
    | some ps =>
      simp only [Bool.and_eq_true, decide_eq_true_eq] at z
      obtain ⟨z1, z2⟩ := z
      obtain ⟨h1, h2⟩ := mem_choices.mp z1
      exact ⟨_, rfl, .yes ps z2 h1 h2⟩
theorem range_row {n : Nat} (hn : n ≤ 3) (q : Nat → Bool) : (List.range n).filter q ∈ allRow := by
  have e : n = 0 ∨ n = 1 ∨ n = 2 ∨ n = 3 := by omega
  rcases e with rfl | rfl | rfl | rfl
  · simp [allRow]
  · show [0].filter q ∈ allRow
    cases h0 : q 0 <;> simp [h0, allRow]
  · show [0, 1].filter q ∈ allRow
    cases h0 : q 0 <;> cases h1 : q 1 <;> simp [h0, h1, allRow]
  · show [0, 1, 2].filter q ∈ allRow
    cases h0 : q 0 <;> cases h1 : q 1 <;> cases h2 : q 2 <;> simp [h0, h1, h2, allRow]
theorem filter_row {r : List Nat} (h : r ∈ allRow) (q : Nat → Bool) : r.filter q ∈ allRow := by
  simp only [allRow, List.mem_cons, List.not_mem_nil, or_false] at h
  cases h0 : q 0 <;> cases h1 : q 1 <;> cases h2 : q 2 <;> rcases h with rfl | rfl | rfl | rfl | rfl | rfl | rfl | rfl <;> simp [h0, h1, h2, allRow]
theorem can_some {rows : List (List Nat)} (h : rows ∈ allRows) : ∃ b, canM rows = some b := Option.isSome_iff_exists.mp (List.all_eq_true.mp canM_all rows h)
end LB
end
section
set_option autoImplicit false
set_option Elab.async false
set_option linter.all false
set_option maxRecDepth 100000
set_option maxHeartbeats 4000000
/-! sorting of nested data of ints, texts and tuples: empty tuples too, and places of unlike kinds that are never asked -/
namespace LB
open PySem PySem.W PySem.SeqAt PyProof.Rows

mutual
def pl : PyData → Bool
  | .int _ => true
  | .str x => PyData.strOk x
  | .tuple xs => plAll xs
  | _ => false
def plAll : List PyData → Bool
  | [] => true
  | x :: xs => pl x && plAll xs
end
theorem plAll_iff : ∀ xs : List PyData, plAll xs = true ↔ ∀ x ∈ xs, pl x = true
  | [] => by simp [plAll]
  | x :: xs => by rw [plAll, Bool.and_eq_true, plAll_iff xs]; simp
mutual
def wal : PyData → PyData → Bool
  | .int _, .int _ => true
  | .str _, .str _ => true
  | .tuple xs, .tuple ys => walAll xs ys
  | _, _ => false
def walAll : List PyData → List PyData → Bool
  | x :: xs, y :: ys => wal x y && (!PyData.eqv x y || walAll xs ys)
  | [], _ => true
  | _ :: _, [] => true
end
mutual
theorem pl_lay : ∀ d : PyData, pl d = true → d.canLay0 = true
  | .int _, _ => rfl
  | .str x, h => by simp only [PyData.canLay0]; simpa [pl] using h
  | .tuple xs, h => by simp only [PyData.canLay0]; exact plAll_lay xs (by simpa [pl] using h)
  | .none, h => by cases h
  | .bool _, h => by cases h
  | .list _, h => by cases h
  | .dict _, h => by cases h
theorem plAll_lay : ∀ xs : List PyData, plAll xs = true → PyData.canLayAll0 xs = true
  | [], _ => rfl
  | x :: xs, h => by
    rw [plAll, Bool.and_eq_true] at h
    simp only [PyData.canLayAll0, Bool.and_eq_true]
    exact ⟨pl_lay x h.1, plAll_lay xs h.2⟩
end
mutual
theorem eqv_iff : ∀ x y : PyData, pl x = true → pl y = true → (PyData.eqv x y = true ↔ x = y)
  | .int a, y, _, hy => by
    cases y with
    | int b => simp [PyData.eqv]
    | str b => simp [PyData.eqv]
    | tuple b => simp [PyData.eqv]
    | _ => cases hy
  | .str a, y, _, hy => by
    cases y with
    | int b => simp [PyData.eqv]
    | str b => simp [PyData.eqv]
    | tuple b => simp [PyData.eqv]
    | _ => cases hy
  | .tuple xs, y, hx, hy => by
    cases y with
    | int b => simp [PyData.eqv]
    | str b => simp [PyData.eqv]
    | tuple ys =>
      have h := eqvAll_iff xs ys (by simpa [pl] using hx) (by simpa [pl] using hy)
      simp only [PyData.eqv, PyData.tuple.injEq]
      exact h
    | _ => cases hy
  | .none, _, h, _ => by cases h
  | .bool _, _, h, _ => by cases h
  | .list _, _, h, _ => by cases h
  | .dict _, _, h, _ => by cases h
theorem eqvAll_iff : ∀ xs ys : List PyData, plAll xs = true → plAll ys = true → (PyData.eqvAll xs ys = true ↔ xs = ys)
  | [], [], _, _ => by simp [PyData.eqvAll]
  | [], y :: ys, _, _ => by simp [PyData.eqvAll]
  | x :: xs, [], _, _ => by simp [PyData.eqvAll]
  | x :: xs, y :: ys, h, k => by
    rw [plAll, Bool.and_eq_true] at h k
    rw [PyData.eqvAll, Bool.and_eq_true, eqv_iff x y h.1 k.1, eqvAll_iff xs ys h.2 k.2, List.cons.injEq]
end
/-- one value reads as one datum -/
theorem reads_one {h : Heap} : ∀ (d d' : PyData) (v : Value) (as as' : List Addr), pl d = true → pl d' = true → Reads h v d as → Reads h v d' as' → d = d'
  | .int _, _, _, _, _, _, _, r, r' => by cases r; cases r'; rfl
  | .str _, _, _, _, _, _, _, r, r' => by cases r; cases r'; rfl
  | .tuple xs, d', _, _, _, p, p', r, r' => by
    cases r with
    | tuple h1 h2 h3 h4 =>
      cases r' with
      | tuple k1 k2 k3 k4 =>
        rw [h1] at k1; cases k1
        rw [h3] at k3; cases k3
        have e : ∀ (xs ys : List PyData) (vs : List Value) (as as' : List Addr), (∀ x ∈ xs, ∀ (y : PyData) (v : Value) (a a' : List Addr), pl y = true → Reads h v x a → Reads h v y a' → x = y) → plAll ys = true → ReadsAll h vs xs as → ReadsAll h vs ys as' → xs = ys := by
          intro xs
          induction xs with
          | nil => intro ys vs as as' _ _ r r'; cases r; cases r'; rfl
          | cons x xs ih =>
            intro ys vs as as' hx py r r'
            cases r with
            | cons q1 q2 =>
              cases r' with
              | cons w1 w2 =>
                rw [plAll, Bool.and_eq_true] at py
                rw [hx x List.mem_cons_self _ _ _ _ py.1 q1 w1, ih _ _ _ _ (fun z hz => hx z (List.mem_cons_of_mem _ hz)) py.2 q2 w2]
        have pxs : plAll xs = true := by simpa [pl] using p
        rw [e xs _ _ _ _ (fun x hx y v a a' hy q1 q2 => reads_one x y v a a' ((plAll_iff xs).mp pxs x hx) hy q1 q2) (by simpa [pl] using p') h4 k4]
      | list k1 k2 k3 k4 => cases p'
      | dict k1 k2 k3 k4 k5 => cases p'
  | .none, _, _, _, _, p, _, _, _ => by cases p
  | .bool _, _, _, _, _, p, _, _, _ => by cases p
  | .list _, _, _, _, _, p, _, _, _ => by cases p
  | .dict _, _, _, _, _, p, _, _, _ => by cases p
theorem wal_cons {x y : PyData} {xs ys : List PyData} (h : walAll (x :: xs) (y :: ys) = true) : wal x y = true ∧ (PyData.eqv x y = true → walAll xs ys = true) := by
  rw [walAll, Bool.and_eq_true, Bool.or_eq_true, Bool.not_eq_true'] at h
  refine ⟨h.1, fun e => ?_⟩
  rcases h.2 with q | q
  · rw [e] at q; cases q
  · exact q
/-- unlike data are parted at once -/
def Apart (x y : PyData) : Prop := ∀ l m, lxl (keyToks x ++ l) (keyToks y ++ m) = dataLt x y
mutual
theorem wal_apart : ∀ (x y : PyData), wal x y = true → pl x = true → pl y = true → x ≠ y → Apart x y
  | .int a, y, h, _, _, hne => by
    cases y with
    | int b =>
      intro l m
      have : a ≠ b := fun e => hne (by rw [e])
      rw [dataLt_int, toks_int, toks_int, List.singleton_append, List.singleton_append, lxl_ne (fun q => this (Sum.inl.inj q))]
      rfl
    | _ => cases h
  | .str a, y, h, _, _, hne => by
    cases y with
    | str b =>
      intro l m
      have hc : a.cps.toList ≠ b.cps.toList := fun e => hne (by rw [str_of_cps e])
      rw [dataLt_str]
      simp only [keyToks]
      rw [List.singleton_append, List.singleton_append, lxl_ne (fun q => hc (Sum.inr.inj q))]
      rfl
    | _ => cases h
  | .tuple xs, y, h, px, py, hne => by
    cases y with
    | tuple ys =>
      intro l m
      rw [dataLt_tuple]
      simp only [keyToks]
      exact walAll_apart xs ys (by simpa [wal] using h) (by simpa [pl] using px) (by simpa [pl] using py) (fun e => hne (by rw [e])) l m
    | _ => cases h
  | .none, _, _, p, _, _ => by cases p
  | .bool _, _, _, p, _, _ => by cases p
  | .list _, _, _, p, _, _ => by cases p
  | .dict _, _, _, p, _, _ => by cases p
theorem walAll_apart : ∀ (xs ys : List PyData), walAll xs ys = true → plAll xs = true → plAll ys = true → xs ≠ ys → ∀ l m, lxl (keyToksAll xs ++ l) (keyToksAll ys ++ m) = lxl (keyToksAll xs) (keyToksAll ys)
  | [], [], _, _, _, hne, _, _ => absurd rfl hne
  | [], y :: ys, _, _, _, _, l, m => by
    rw [toks_nil, toks_cons, List.cons_append, List.cons_append, lxl_ne (by simp), lxl_ne (by simp)]
  | x :: xs, [], _, _, _, _, l, m => by
    rw [toks_nil, toks_cons, List.cons_append, List.cons_append, lxl_ne (by simp), lxl_ne (by simp)]
  | x :: xs, y :: ys, h, px, py, hne, l, m => by
    obtain ⟨h1, h2⟩ := wal_cons h
    rw [plAll, Bool.and_eq_true] at px py
    rw [toks_cons, toks_cons]
    rcases Classical.em (x = y) with e | e
    · subst e
      have hw := h2 ((eqv_iff x x px.1 px.1).mpr rfl)
      have ih := walAll_apart xs ys hw px.2 py.2 (fun q => hne (by rw [q])) l m
      have e1 := lxl_pre (.inl 1 :: keyToks x) (keyToksAll xs ++ l) (keyToksAll ys ++ m)
      have e2 := lxl_pre (.inl 1 :: keyToks x) (keyToksAll xs) (keyToksAll ys)
      simp only [List.cons_append, List.append_assoc] at e1 e2 ⊢
      rw [e1, e2, ih]
    · have a := wal_apart x y h1 px.1 py.1 e
      have e1 := lxl_pre [.inl 1] (keyToks x ++ (keyToksAll xs ++ l)) (keyToks y ++ (keyToksAll ys ++ m))
      have e2 := lxl_pre [.inl 1] (keyToks x ++ keyToksAll xs) (keyToks y ++ keyToksAll ys)
      simp only [List.cons_append, List.nil_append, List.append_assoc] at e1 e2 ⊢
      rw [e1, e2, a, a]
end
theorem all_yes {x : PyData} (xs ys : List PyData) : lxl (keyToksAll (x :: xs)) (keyToksAll (x :: ys)) = lxl (keyToksAll xs) (keyToksAll ys) := by
  rw [toks_cons, toks_cons]
  exact lxl_pre (.inl 1 :: keyToks x) (keyToksAll xs) (keyToksAll ys)
theorem all_no {x y : PyData} (a : Apart x y) (xs ys : List PyData) : lxl (keyToksAll (x :: xs)) (keyToksAll (y :: ys)) = dataLt x y := by
  rw [toks_cons, toks_cons]
  exact (lxl_pre [.inl 1] (keyToks x ++ keyToksAll xs) (keyToks y ++ keyToksAll ys)).trans (a _ _)
theorem firstLt_wal : ∀ (xs ys : List PyData), walAll xs ys = true → plAll xs = true → plAll ys = true →
    firstLt (pairEq xs ys) (fun j => dataLt (xs.getD j .none) (ys.getD j .none)) (decide (xs.length < ys.length)) (List.range (min xs.length ys.length)) = lxl (keyToksAll xs) (keyToksAll ys)
  | [], [], _, _, _ => by rw [show lxl (keyToksAll []) (keyToksAll []) = false from lex_irrefl (O := itemOrd) _]; simp [firstLt]
  | [], y :: ys, _, _, _ => by
    rw [toks_nil, toks_cons, lxl_ne (by simp)]
    simp [firstLt, itemLt]
  | x :: xs, [], _, _, _ => by
    rw [toks_nil, toks_cons, lxl_ne (by simp)]
    simp [firstLt, itemLt]
  | x :: xs, y :: ys, h, px, py => by
    obtain ⟨h1, h2⟩ := wal_cons h
    have px' := px
    have py' := py
    rw [plAll, Bool.and_eq_true] at px py
    have em : min (x :: xs).length (y :: ys).length = min xs.length ys.length + 1 := by
      rw [List.length_cons, List.length_cons]
      omega
    have ed : decide ((x :: xs).length < (y :: ys).length) = decide (xs.length < ys.length) := by
      rw [List.length_cons, List.length_cons]
      exact decide_eq_decide.mpr (by omega)
    rw [em, ed, List.range_succ_eq_map]
    cases hx : PyData.eqv x y with
    | true =>
      have e := (eqv_iff x y px.1 py.1).mp hx
      subst e
      rw [firstLt_yes (show pairEq (x :: xs) (x :: ys) 0 = true from hx), firstLt_map, all_yes, ← firstLt_wal xs ys (h2 hx) px.2 py.2]
      rfl
    | false =>
      have e : x ≠ y := fun q => by rw [(eqv_iff x y px.1 py.1).mpr q] at hx; cases hx
      rw [firstLt_no (show pairEq (x :: xs) (y :: ys) 0 = false from hx), all_no (wal_apart x y h1 px.1 py.1 e)]
      rfl
theorem pairEq_pre : ∀ (xs ys : List PyData) (j : Nat), walAll xs ys = true → (∀ i, i < j → pairEq xs ys i = true) → j < xs.length → j < ys.length → wal (xs.getD j .none) (ys.getD j .none) = true
  | [], _, j, _, _, h, _ => absurd h (Nat.not_lt_zero _)
  | _ :: _, [], j, _, _, _, h => absurd h (Nat.not_lt_zero _)
  | x :: xs, y :: ys, 0, h, _, _, _ => (wal_cons h).1
  | x :: xs, y :: ys, j + 1, h, hi, l1, l2 => pairEq_pre xs ys j ((wal_cons h).2 (hi 0 (Nat.succ_pos _))) (fun i hij => hi (i + 1) (Nat.succ_lt_succ hij)) (Nat.lt_of_succ_lt_succ l1) (Nat.lt_of_succ_lt_succ l2)
end LB
end
section
set_option autoImplicit false
set_option Elab.async false
set_option linter.all false
set_option maxRecDepth 100000
set_option maxHeartbeats 4000000
namespace LB
open PySem PySem.W PySem.SeqAt PyProof.Rows
open AutoSeq1 (wpAny_loadPart')
open MeetsSeq MeetsSeq2 MeetsSeq3 SeqRoads2

/-- tuple.__lt__: the item's < is asked at the first place that differs alone -/
theorem tup_lt (p q : Addr) (us ws : Array Value) (n m : Nat) (dp dq : Option Addr) (sp sq : Array (Option Value)) (e r : Nat → Bool) :
    Meets (Builtin.«tuple.__lt__» ⟨[.ref p, .ref q], []⟩)
      (fun A R s => s.heap.get? p = some ⟨.type "tuple", dp, .seq us n, sp⟩ ∧ s.heap.get? q = some ⟨.type "tuple", dq, .seq ws m, sq⟩ ∧
        (∀ j (h1 : j < us.size) (h2 : j < ws.size), EqAt A.in1 s us[j] ws[j] (e j)) ∧
        (∀ j (h1 : j < us.size) (h2 : j < ws.size), (∀ i, i < j → e i = true) → e j = false → RcLt A.in1 s us[j] ws[j] (r j)) ∧
        R (.ok (.ret (.bool (firstLt e r (decide (us.size < ws.size)) (List.range (min us.size ws.size)))))) s) :=
  .of_wp fun prog w A R s h => by
    obtain ⟨hp, g, d, tk, os⟩ := s
    obtain ⟨hl, hb, he, hr, h⟩ := h
    have f2 := AutoSeq1.sub_tuple_tuple
    have hZ : (us.toList.zip ws.toList).length = min us.size ws.size := by simp
    wp_walk using wpAny_loadPart' hl, wpAny_loadPart' hb, wpAny_forIn_list _ (fun rest z s' => z.1 = none ∧ s' = ⟨hp, g, d, tk, os⟩ ∧ ∃ i, rest = (us.toList.zip ws.toList).drop i ∧ (∀ k, k < i → e k = true) ∧
      R (.ok (.ret (.bool (firstLt e r (decide (us.size < ws.size)) ((List.range (min us.size ws.size)).drop i))))) ⟨hp, g, d, tk, os⟩) _
    case turn =>
      rintro ⟨y, x⟩ rest z s' ⟨hb', rfl, i, hz, hall, hR⟩
      have hlt : i < (us.toList.zip ws.toList).length := by
        rcases Nat.lt_or_ge i (us.toList.zip ws.toList).length with c | c
        · exact c
        · rw [List.drop_of_length_le c] at hz; cases hz
      have hm : i < min us.size ws.size := hZ ▸ hlt
      have k1 : i < us.size := Nat.lt_of_lt_of_le hm (Nat.min_le_left _ _)
      have k2 : i < ws.size := Nat.lt_of_lt_of_le hm (Nat.min_le_right _ _)
      rw [List.drop_eq_getElem_cons hlt] at hz
      injection hz with hyx hrest
      have hy : y = us[i] := by have := congrArg Prod.fst hyx; simpa using this
      have hx : x = ws[i] := by have := congrArg Prod.snd hyx; simpa using this
      subst hy hx
      have hd : (List.range (min us.size ws.size)).drop i = i :: (List.range (min us.size ws.size)).drop (i + 1) := by simp [List.drop_eq_getElem_cons, hm]
      rw [hd] at hR
      refine wpAny_bind (he i k1 k2 prog w _ _ ?_)
      cases hy : e i with
      | true =>
        rw [firstLt_yes hy] at hR
        wp_walk
        refine ⟨rfl, rfl, i + 1, hrest, fun k hk => ?_, hR⟩
        rcases Nat.lt_or_eq_of_le (Nat.le_of_lt_succ hk) with c | c
        · exact hall k c
        · rw [c]; exact hy
      | false =>
        rw [firstLt_no hy] at hR
        rw [if_pos (show (!false) = true from rfl)]
        dsimp only
        refine wpAny_bind (wpAny_rule ?_)
        refine wpAny_bind (hr i k1 k2 hall hy prog w _ _ ?_)
        wp_walk
        exact ⟨_, rfl, hR⟩
    case fin =>
      rintro ⟨b1, b2⟩ s' ⟨hb', rfl, i, hz, hall, hR⟩
      simp only at hb'
      subst hb'
      have hge : min us.size ws.size ≤ i := by
        rcases Nat.lt_or_ge i (us.toList.zip ws.toList).length with c | c
        · rw [List.drop_eq_getElem_cons c] at hz; cases hz
        · exact hZ ▸ c
      rw [List.drop_of_length_le (by simpa using hge)] at hR
      wp_walk
      exact ⟨_, rfl, by simpa [Builtin.Tuple.tupleCompareSizes, firstLt] using hR⟩
    case h =>
      exact ⟨rfl, rfl, 0, rfl, fun k hk => absurd hk (Nat.not_lt_zero _), by simpa using h⟩

section
variable {A : Around} {s : Shared}
theorem rcLt_tup {p q : Addr} {us ws : Array Value} {e r : Nat → Bool} (hl : s.heap.IsTuple p us) (hb : s.heap.IsTuple q ws) (hu : A.units < cLine)
    (he : ∀ j (h1 : j < us.size) (h2 : j < ws.size), EqAt A.in1 s us[j] ws[j] (e j)) (hr : ∀ j (h1 : j < us.size) (h2 : j < ws.size), (∀ i, i < j → e i = true) → e j = false → RcLt A.in1 s us[j] ws[j] (r j)) :
    RcLt A s (.ref p) (.ref q) (firstLt e r (decide (us.size < ws.size)) (List.range (min us.size ws.size))) := fun prog w E Q h => by
  obtain ⟨⟨cls, dd, data, sl⟩, ho, hc, n, hd⟩ := id hl
  obtain ⟨⟨cls2, dd2, data2, sl2⟩, ho2, hc2, n2, hd2⟩ := id hb
  simp only at hc hd hc2 hd2
  subst hc hd hc2 hd2
  exact richCompare_meets_room (op := .Lt) ⟨_, ho, rfl⟩ ⟨_, ho2, rfl⟩ F.slot_tuple_lt F.entry_tuple_lt (F.args_tuple_lt_2 _ _) (tup_lt p q us ws n n2 dd dd2 sl sl2 e r)
    ⟨ho, ho2, he, hr, (fun x => nomatch x), h⟩ hu
/-- tuple's own __lt__, as sorting calls it -/
theorem call_tup_lt {prog : Program} {w : World} {E : Value → Shared → Prop} {Q : Value → Shared → Prop} {p q : Addr} {us ws : Array Value} {e r : Nat → Bool} (hl : s.heap.IsTuple p us) (hb : s.heap.IsTuple q ws)
    (he : ∀ j (h1 : j < us.size) (h2 : j < ws.size), EqAt A.in1 s us[j] ws[j] (e j)) (hr : ∀ j (h1 : j < us.size) (h2 : j < ws.size), (∀ i, i < j → e i = true) → e j = false → RcLt A.in1 s us[j] ws[j] (r j))
    (h : Q (.bool (firstLt e r (decide (us.size < ws.size)) (List.range (min us.size ws.size)))) s) : wpAny (model prog w) A (call (.builtin "tuple.__lt__") [.ref p, .ref q]) Q E s := by
  obtain ⟨⟨cls, dd, data, sl⟩, ho, hc, n, hd⟩ := id hl
  obtain ⟨⟨cls2, dd2, data2, sl2⟩, ho2, hc2, n2, hd2⟩ := id hb
  simp only at hc hd hc2 hd2
  subst hc hd hc2 hd2
  exact call_meets F.slot_tuple_lt ⟨_, ho, rfl⟩ F.entry_tuple_lt (F.args_tuple_lt_2 _ _) (tup_lt p q us ws n n2 dd dd2 sl sl2 e r) ⟨ho, ho2, he, hr, h⟩

theorem eqAt_pl {da db : PyData} {A : Around} {s : Shared} {a b : Value} {as bs : List Addr} (ra : Reads s.heap a da as) (rb : Reads s.heap b db bs) (pa : pl da = true) (pb : pl db = true) (hu : A.units + min da.depth db.depth < cLine) : EqAt A s a b (PyData.eqv da db) :=
  eqAt_reads da db A s a b as bs ra rb (pl_lay da pa) (pl_lay db pb) hu
theorem eqAt_plAll {xs ys : List PyData} {A : Around} {s : Shared} {us ws : Array Value} {as bs : List Addr} (ra : ReadsAll s.heap us.toList xs as) (rb : ReadsAll s.heap ws.toList ys bs) (pa : plAll xs = true) (pb : plAll ys = true)
    (hu : A.units + min (PyData.depthAll xs) (PyData.depthAll ys) < cLine) (j : Nat) (h1 : j < us.size) (h2 : j < ws.size) : EqAt A s us[j] ws[j] (pairEq xs ys j) := by
  have := eqAt_readsAll xs ys A s us.toList ws.toList _ _ ra rb (plAll_lay xs pa) (plAll_lay ys pb) hu j (by simpa using h1) (by simpa using h2)
  simpa using this
theorem readsAll_get {h : Heap} : ∀ {vs : List Value} {xs : List PyData} {as : List Addr} {j : Nat} (r : ReadsAll h vs xs as) (hj : j < vs.length), ∃ as', Reads h vs[j] (xs.getD j .none) as'
  | _, _, _, j, .nil, hj => absurd hj (Nat.not_lt_zero _)
  | _, _, _, 0, .cons r _, _ => ⟨_, r⟩
  | _, _, _, j + 1, .cons _ t, hj => readsAll_get (j := j) t (Nat.lt_of_succ_lt_succ hj)
theorem depth_getD : ∀ (xs : List PyData) (j : Nat), j < xs.length → (xs.getD j .none).depth ≤ PyData.depthAll xs
  | [], j, h => absurd h (Nat.not_lt_zero _)
  | x :: xs, 0, _ => by show x.depth ≤ max _ _; exact Nat.le_max_left _ _
  | x :: xs, j + 1, h => Nat.le_trans (depth_getD xs j (Nat.lt_of_succ_lt_succ h)) (by show _ ≤ max _ _; exact Nat.le_max_right _ _)
theorem plAll_getD {xs : List PyData} (h : plAll xs = true) {j : Nat} (hj : j < xs.length) : pl (xs.getD j .none) = true := by
  rw [List.getD_eq_getElem?_getD, List.getElem?_eq_getElem hj]
  exact (plAll_iff xs).mp h _ (List.getElem_mem hj)

/-- a < b -/
theorem rcLt_wal : ∀ (n : Nat) (da db : PyData) (A : Around) (s : Shared) (a b : Value) (as bs : List Addr), da.depth ≤ n → Reads s.heap a da as → Reads s.heap b db bs → wal da db = true → pl da = true → pl db = true → A.units + min da.depth db.depth < cLine → RcLt A s a b (dataLt da db)
  | n, .int x, db, A, s, a, b, as, bs, _, ra, rb, h, _, _, _ => by
    cases db with
    | int y =>
      cases ra
      cases rb
      intro prog w E Q hq
      rw [dataLt_int] at hq
      exact P.lt_int hq
    | _ => cases h
  | n, .str x, db, A, s, a, b, as, bs, _, ra, rb, h, _, _, _ => by
    cases db with
    | str y =>
      cases ra
      cases rb
      intro prog w E Q hq
      rw [dataLt_str] at hq
      exact P.lt_str hq
    | _ => cases h
  | 0, .tuple xs, db, A, s, a, b, as, bs, hd, _, _, _, _, _, _ => by simp [PyData.depth] at hd
  | n + 1, .tuple xs, db, A, s, a, b, as, bs, hd, ra, rb, h, pa, pb, hu => by
    cases db with
    | tuple ys =>
      have hw : walAll xs ys = true := by simpa [wal] using h
      have px : plAll xs = true := by simpa [pl] using pa
      have py : plAll ys = true := by simpa [pl] using pb
      have hd' : PyData.depthAll xs ≤ n := by simp only [PyData.depth] at hd; omega
      cases ra with
      | @tuple l o vs n1 _ _ h1 h2 h3 h4 =>
        cases rb with
        | @tuple l' o' vs' n2 _ _ k1 k2 k3 k4 =>
          have e1 : vs.size = xs.length := by simpa using ReadsAll.length _ _ _ h4
          have e2 : vs'.size = ys.length := by simpa using ReadsAll.length _ _ _ k4
          rw [dataLt_tuple]
          show RcLt A s _ _ (lxl _ _)
          rw [← firstLt_wal xs ys hw px py, ← e1, ← e2]
          refine rcLt_tup ⟨_, h1, h2, _, h3⟩ ⟨_, k1, k2, _, k3⟩ (room_here hu) (fun j j1 j2 => eqAt_plAll h4 k4 px py (room_in hu) j j1 j2) fun j j1 j2 hpre _ => ?_
          have l1 : j < xs.length := by omega
          have l2 : j < ys.length := by omega
          obtain ⟨as1, r1⟩ := readsAll_get h4 (j := j) (by simpa using j1)
          obtain ⟨bs1, r2⟩ := readsAll_get k4 (j := j) (by simpa using j2)
          have d1 := depth_getD xs j l1
          have d2 := depth_getD ys j l2
          have hu' := room_in hu
          exact rcLt_wal n (xs.getD j .none) (ys.getD j .none) A.in1 s vs[j] vs'[j] as1 bs1 (by omega) (by simpa using r1) (by simpa using r2) (pairEq_pre xs ys j hw hpre l1 l2) (plAll_getD px l1) (plAll_getD py l2)
            (by show A.units + 1 + _ < _; omega)
    | _ => cases h
  | _, .none, _, _, _, _, _, _, _, _, _, _, _, p, _, _ => by cases p
  | _, .bool _, _, _, _, _, _, _, _, _, _, _, _, p, _, _ => by cases p
  | _, .list _, _, _, _, _, _, _, _, _, _, _, _, p, _, _ => by cases p
  | _, .dict _, _, _, _, _, _, _, _, _, _, _, _, p, _, _ => by cases p
end
section
variable {prog : Program} {w : World} {A : Around} {E : Value → Shared → Prop} {s : Shared}
/-- one key against another, by any of the sort's ways -/
theorem oneLt_wal {f : Bool} {da db : PyData} {a b : Value} {as bs : List Addr} {Q : Bool → Shared → Prop} (ra : Reads s.heap a da as) (rb : Reads s.heap b db bs) (h : wal da db = true) (pa : pl da = true) (pb : pl db = true)
    (hu : A.units + min da.depth db.depth < cLine) (hq : Q (dataLt da db) s) : wpAny (model prog w) A (oneLt' f a b) Q E s := by
  cases f with
  | false =>
    rw [oneLt'_eq]
    simp only [Bool.false_eq_true, if_false]
    exact wpAny_bind (rcLt_wal _ da db A s a b as bs (Nat.le_refl _) ra rb h pa pb hu prog w E _ (wpAny_truthy_bool hq))
  | true =>
    cases da with
    | int x =>
      cases db with
      | int y =>
        cases ra
        cases rb
        rw [dataLt_int] at hq
        exact oneLt_int hq
      | _ => cases h
    | str x =>
      cases db with
      | str y =>
        cases ra
        cases rb
        rw [dataLt_str] at hq
        exact oneLt_str hq
      | _ => cases h
    | tuple xs =>
      cases db with
      | tuple ys =>
        have hw : walAll xs ys = true := by simpa [wal] using h
        have px : plAll xs = true := by simpa [pl] using pa
        have py : plAll ys = true := by simpa [pl] using pb
        cases ra with
        | @tuple l o vs n1 _ _ h1 h2 h3 h4 =>
          cases rb with
          | @tuple l' o' vs' n2 _ _ k1 k2 k3 k4 =>
            have e1 : vs.size = xs.length := by simpa using ReadsAll.length _ _ _ h4
            have e2 : vs'.size = ys.length := by simpa using ReadsAll.length _ _ _ k4
            have hq' : Q (lxl (keyToksAll xs) (keyToksAll ys)) s := by rw [dataLt_tuple] at hq; exact hq
            rw [← firstLt_wal xs ys hw px py, ← e1, ← e2] at hq'
            rw [oneLt'_eq]
            simp only [if_true]
            refine wpAny_bind (wpAny_cRoomFor (room_here hu) ?_)
            refine wpAny_bind (wpAny_callSpecialIfBound?_slot (T := "tuple") ⟨_, h1, h2⟩ F.slot_tuple_lt (call_tup_lt (e := pairEq xs ys) (r := fun j => dataLt (xs.getD j .none) (ys.getD j .none)) ⟨_, h1, h2, _, h3⟩ ⟨_, k1, k2, _, k3⟩
              (fun j j1 j2 => eqAt_plAll h4 k4 px py (room_in hu) j j1 j2) (fun j j1 j2 hpre _ => ?_) (wpAny_truthy_bool hq')))
            have l1 : j < xs.length := by omega
            have l2 : j < ys.length := by omega
            obtain ⟨as1, r1⟩ := readsAll_get h4 (j := j) (by simpa using j1)
            obtain ⟨bs1, r2⟩ := readsAll_get k4 (j := j) (by simpa using j2)
            have d1 := depth_getD xs j l1
            have d2 := depth_getD ys j l2
            have hu' := room_in hu
            exact rcLt_wal _ (xs.getD j .none) (ys.getD j .none) A.in1 s vs[j] vs'[j] as1 bs1 (Nat.le_refl _) (by simpa using r1) (by simpa using r2) (pairEq_pre xs ys j hw hpre l1 l2) (plAll_getD px l1) (plAll_getD py l2)
              (by show A.units + 1 + _ < _; omega)
      | _ => cases h
    | _ => cases pa
theorem katLex_wal {b fin : Bool} {Q : Bool → Shared → Prop} : ∀ (xs ys : List PyData) (i : Nat) (vs ws : List Value) (as bs : List Addr), ReadsAll s.heap vs xs as → ReadsAll s.heap ws ys bs → walAll xs ys = true → plAll xs = true → plAll ys = true →
    A.units + min (PyData.depthAll xs) (PyData.depthAll ys) < cLine → fin = decide (xs.length < ys.length) → Q (lxl (keyToksAll xs) (keyToksAll ys)) s → KatLex prog w A b fin Q (vs.zip ws) i s
  | [], [], i, _, _, _, _, ra, rb, _, _, _, _, hf, hq => by
    cases ra
    cases rb
    have e : fin = false := by rw [hf]; rfl
    subst e
    rw [show lxl (keyToksAll []) (keyToksAll []) = false from lex_irrefl (O := itemOrd) _] at hq
    exact kat_nil hq
  | [], y :: ys, i, _, _, _, _, ra, rb, _, _, _, _, hf, hq => by
    cases ra
    have e : fin = true := by rw [hf]; exact decide_eq_true (Nat.succ_pos _)
    subst e
    rw [toks_nil, toks_cons, lxl_ne (by simp)] at hq
    rw [List.zip_nil_left]
    exact kat_nil (by simpa [itemLt] using hq)
  | x :: xs, [], i, _, _, _, _, ra, rb, _, _, _, _, hf, hq => by
    cases rb
    have e : fin = false := by rw [hf]; exact decide_eq_false (Nat.not_lt_zero _)
    subst e
    rw [toks_nil, toks_cons, lxl_ne (by simp)] at hq
    rw [List.zip_nil_right]
    exact kat_nil (by simpa [itemLt] using hq)
  | x :: xs, y :: ys, i, _, _, _, _, ra, rb, h, px, py, hu, hf, hq => by
    obtain ⟨h1, h2⟩ := wal_cons h
    rw [plAll, Bool.and_eq_true] at px py
    have hf' : fin = decide (xs.length < ys.length) := by
      rw [hf]
      simp only [List.length_cons, Nat.add_lt_add_iff_right]
    cases ra with
    | cons r rs =>
      cases rb with
      | cons r' rs' =>
        rw [List.zip_cons_cons]
        refine kat_cons (eqAt_pl r r' px.1 py.1 (room_head hu) prog w _ _ ?_)
        cases hx : PyData.eqv x y with
        | true =>
          have e := (eqv_iff x y px.1 py.1).mp hx
          subst e
          rw [all_yes] at hq
          exact kat_yes (katLex_wal xs ys (i + 1) _ _ _ _ rs rs' (h2 hx) px.2 py.2 (room_tail hu) hf' hq)
        | false =>
          have e : x ≠ y := fun q => by rw [(eqv_iff x y px.1 py.1).mpr q] at hx; cases hx
          rw [all_no (wal_apart x y h1 px.1 py.1 e)] at hq
          exact kat_no (oneLt_wal r r' h1 px.1 py.1 (room_head hu) hq)
end
end LB
end
section
set_option autoImplicit false
set_option Elab.async false
set_option linter.all false
set_option maxRecDepth 100000
set_option maxHeartbeats 4000000
namespace LB
open PySem PySem.W PySem.SeqAt PyProof.Rows

theorem dk_some {h : Heap} {ds : List PyData} (hp : ∀ d ∈ ds, pl d = true) {v : Value} {d : PyData} {as : List Addr} (hd : d ∈ ds) (r : Reads h v d as) : (dataKind h ds).keyOf v = some (keyToks d) := by
  have q : ∃ d, d ∈ ds ∧ ∃ as, Reads h v d as := ⟨d, hd, as, r⟩
  cases e : (dataKind h ds).keyOf v with
  | some k =>
    obtain ⟨d', as', hd', r', rfl⟩ := dataKind_inv e
    have z := reads_one d' d v as' as (hp d' hd') (hp d hd) r' r
    subst z
    rfl
  | none =>
    have e' : (open Classical in if q : ∃ d, d ∈ ds ∧ ∃ as, Reads h v d as then some (keyToks q.choose) else none) = none := e
    rw [dif_pos q] at e'
    cases e'
section
variable {M : Model} {A : Around} {s : Shared}
/-- f v gives r, wherever asked -/
def Gv (M : Model) (A : Around) (s : Shared) {α β : Type} (f : α → Sem β) (v : α) (r : β) : Prop := ∀ (E : Value → Shared → Prop) (Q : β → Shared → Prop), Q r s → wpAny M A (f v) Q E s
theorem mapM_each {α β : Type} {f : α → Sem β} {E : Value → Shared → Prop} : ∀ {l : List α} {rs : List β} {Q : List β → Shared → Prop}, EachIs (Gv M A s f) l rs → Q rs s → wpAny M A (l.mapM f) Q E s
  | _, _, _, .nil, h => by rw [List.mapM_nil]; exact wpAny_pure h
  | _, _, Q, .cons (a := v) (b := r) hv t, h => by
    rw [List.mapM_cons]
    exact wpAny_bind (hv _ _ (wpAny_bind (mapM_each (Q := fun bs s' => wpAny M A (pure (r :: bs)) Q E s') t (wpAny_pure h))))
def K3 (kd : SortKind) : Prop := kd = general' ∨ kd = oneType' ∨ ∃ b, kd = tuples' b
/-- what the sort finds of the keys' kind, the keys all tuples -/
theorem kk_tuples {vs : List Value} {ds : List PyData} (e : EachIs (fun v d => ∃ as, Reads s.heap v d as) vs ds) (ht : ∀ d ∈ ds, ∃ xs, d = .tuple xs) :
    ∃ kd : SortKind, K3 kd ∧ ∀ (E : Value → Shared → Prop) {Q : SortKind → Shared → Prop}, Q kd s → wpAny M A (keyKind' vs.toArray) Q E s := by
  obtain ⟨fs, ef⟩ : ∃ fs : List (Option Value), EachIs (fun v f => Gv M A s firstOfTuple' v f ∧ ∀ u, f = some u → ∃ d as, Reads s.heap u d as) vs fs := by
    induction e with
    | nil => exact ⟨[], .nil⟩
    | @cons v d vs ds h t ih =>
      obtain ⟨fs, ih⟩ := ih fun d hd => ht d (List.mem_cons_of_mem _ hd)
      obtain ⟨xs, rfl⟩ := ht d List.mem_cons_self
      obtain ⟨as, r⟩ := h
      cases r with
      | @tuple a o us n _ _ h1 h2 h3 h4 =>
        refine ⟨us[0]? :: fs, .cons ⟨fun E Q' q => ?_, fun u hu => ?_⟩ ih⟩
        · rw [kas_first_eq]
          refine wpAny_bind (Looks.here (show Looks M s.heap (typeOf (.ref a)) o.cls from (Looks.ld h1).andThen .now) ?_)
          rw [h2, if_neg (by first | decide | simp)]
          exact wpAny_bind (listItems_at h1 h3 (wpAny_pure q))
        · have hl : 0 < us.size := by
            rcases Nat.eq_zero_or_pos us.size with c | c
            · rw [Array.getElem?_eq_none (by omega)] at hu; cases hu
            · exact c
          obtain ⟨as1, r1⟩ := readsAll_get h4 (j := 0) (by simpa using hl)
          rw [Array.getElem?_eq_getElem hl] at hu
          have hu' := Option.some.inj hu
          exact ⟨_, as1, by rw [← hu']; simpa using r1⟩
  have start : ∀ (E : Value → Shared → Prop) {Q : SortKind → Shared → Prop} (kd : SortKind), Q kd s → wpAny M A (if (fs.toArray.all fun x => x.isSome) = true then (do
      rule "list.sort.keys-are-tuples"
      return tuples' ((← oneTypeOnly' (fs.toArray.filterMap id)).any (· != .type "tuple")))
      else (do
        if (fs.toArray[0]?.bind id).isSome then return general'
        return if (← oneTypeOnly' vs.toArray).isSome then oneType' else general')) Q E s → wpAny M A (keyKind' vs.toArray) Q E s := by
    intro E Q kd hq h
    rw [keyKind'_eq, List.mapM_toArray, map_eq_pure_bind]
    exact wpAny_bind (wpAny_bind (mapM_each (ef.mono fun _ _ q => q.1) (wpAny_pure h)))
  by_cases hall : (fs.toArray.all fun x => x.isSome) = true
  · have et : ∃ ts : List Value, EachIs (Gv M A s typeOf) (fs.filterMap id) ts := by
      clear start hall e
      induction ef with
      | nil => exact ⟨[], .nil⟩
      | @cons v f vs fs h t ih =>
        obtain ⟨ts, ih⟩ := ih
        cases f with
        | none => exact ⟨ts, ih⟩
        | some u =>
          obtain ⟨d, as, r⟩ := h.2 u rfl
          exact ⟨dataType d :: ts, .cons (fun E Q' q => (looks_reads r).here q) ih⟩
    obtain ⟨ts, et⟩ := et
    have hfm : (fs.toArray.filterMap id) = (fs.filterMap id).toArray := by simp
    cases h0 : ts.toArray[0]? with
    | none =>
      refine ⟨tuples' ((none : Option Value).any (· != .type "tuple")), .inr (.inr ⟨_, rfl⟩), fun E Q hq => start E _ hq ?_⟩
      rw [if_pos hall]
      refine wpAny_bind (wpAny_rule ?_)
      rw [hfm, oneTypeOnly'_eq, List.mapM_toArray, map_eq_pure_bind]
      refine wpAny_bind (wpAny_bind (wpAny_bind (mapM_each et (wpAny_pure ?_))))
      rw [h0]
      exact wpAny_pure (wpAny_pure hq)
    | some T =>
      refine ⟨tuples' ((if (ts.toArray.all (· == T)) = true then some T else none).any (· != .type "tuple")), .inr (.inr ⟨_, rfl⟩), fun E Q hq => start E _ hq ?_⟩
      rw [if_pos hall]
      refine wpAny_bind (wpAny_rule ?_)
      rw [hfm, oneTypeOnly'_eq, List.mapM_toArray, map_eq_pure_bind]
      refine wpAny_bind (wpAny_bind (wpAny_bind (mapM_each et (wpAny_pure ?_))))
      rw [h0]
      exact wpAny_pure (wpAny_pure hq)
  · by_cases hf : (fs.toArray[0]?.bind id).isSome = true
    · refine ⟨general', .inl rfl, fun E Q hq => start E _ hq ?_⟩
      rw [if_neg hall, if_pos hf]
      exact wpAny_pure hq
    · have et : EachIs (Gv M A s typeOf) vs (ds.map fun _ => Value.type "tuple") := by
        clear start hf hall ef
        induction e with
        | nil => exact .nil
        | @cons v d vs ds h t ih =>
          obtain ⟨as, r⟩ := h
          obtain ⟨xs, rfl⟩ := ht d List.mem_cons_self
          exact .cons (fun E Q' q => (looks_reads r).here q) (ih fun d hd => ht d (List.mem_cons_of_mem _ hd))
      cases h0 : (ds.map fun _ => Value.type "tuple").toArray[0]? with
      | none =>
        refine ⟨general', .inl rfl, fun E Q hq => start E _ hq ?_⟩
        rw [if_neg hall, if_neg hf, oneTypeOnly'_eq, List.mapM_toArray, map_eq_pure_bind]
        refine wpAny_bind (wpAny_bind (wpAny_bind (mapM_each et (wpAny_pure ?_))))
        rw [h0]
        exact wpAny_pure (wpAny_pure hq)
      | some T =>
        refine ⟨if (if ((ds.map fun _ => Value.type "tuple").toArray.all (· == T)) = true then some T else none).isSome then oneType' else general', ?_, fun E Q hq => start E _ hq ?_⟩
        · split
          · exact .inr (.inl rfl)
          · exact .inl rfl
        · rw [if_neg hall, if_neg hf, oneTypeOnly'_eq, List.mapM_toArray, map_eq_pure_bind]
          refine wpAny_bind (wpAny_bind (wpAny_bind (mapM_each et (wpAny_pure ?_))))
          rw [h0]
          exact wpAny_pure (wpAny_pure hq)
end
section
variable {prog : Program} {w : World} {A : Around} {s : Shared}
/-- nested data that can be compared: all tuples, or all ints, or all texts -/
theorem sorts_wal {vs : List Value} {ds : List PyData} (e : EachIs (fun v d => ∃ as, Reads s.heap v d as) vs ds) (hp : ∀ d ∈ ds, pl d = true) (hw : ∀ d ∈ ds, ∀ d' ∈ ds, wal d d' = true) (hu : ∀ d ∈ ds, A.units + d.depth < cLine) : SortsAt prog w A s (dataKind s.heap ds) vs := by
  have room : ∀ {d d' : PyData}, d ∈ ds → A.units + min d.depth d'.depth < cLine := fun {d d'} hd => Nat.lt_of_le_of_lt (Nat.add_le_add_left (Nat.min_le_left _ _) _) (hu d hd)
  refine ⟨fun v hv => ?_, ?_⟩
  · obtain ⟨d, hd, as, r⟩ := e.left v hv
    exact ⟨_, dk_some hp hd r⟩
  · have one : ∀ (f : Bool) (E : Value → Shared → Prop) (x y : Value) (a b : (dataKind s.heap ds).α) {Q : Bool → Shared → Prop}, (dataKind s.heap ds).keyOf x = some a → (dataKind s.heap ds).keyOf y = some b → Q ((dataKind s.heap ds).blt a b) s → wpAny (model prog w) A (oneLt' f x y) Q E s := by
      intro f E x y a b Q ha hb hq
      obtain ⟨d, as, hd, ra, rfl⟩ := dataKind_inv ha
      obtain ⟨d', as', hd', rb, rfl⟩ := dataKind_inv hb
      exact oneLt_wal ra rb (hw d hd d' hd') (hp d hd) (hp d' hd') (room hd) hq
    by_cases ht : ∀ d ∈ ds, ∃ xs, d = .tuple xs
    · have lt : ∀ kd : SortKind, K3 kd → H.LtAt prog w A s (dataKind s.heap ds) kd := by
        rintro kd (rfl | rfl | ⟨b, rfl⟩) E x y a c Q ha hc hq
        · exact one false E x y a c ha hc hq
        · rw [keyLt'_oneType]
          exact one true E x y a c ha hc hq
        · obtain ⟨d, as, hd, ra, rfl⟩ := dataKind_inv ha
          obtain ⟨d', as', hd', rb, rfl⟩ := dataKind_inv hc
          obtain ⟨xs, rfl⟩ := ht d hd
          obtain ⟨ys, rfl⟩ := ht d' hd'
          have hroom := room (d' := .tuple ys) hd
          have hq' : Q (dataLt (.tuple xs) (.tuple ys)) s := hq
          rw [dataLt_tuple] at hq'
          cases ra with
          | @tuple l o us n _ _ h1 h2 h3 h4 =>
            cases rb with
            | @tuple l' o' us' n' _ _ k1 k2 k3 k4 =>
              have n1 : us.size = xs.length := by simpa using ReadsAll.length _ _ _ h4
              have n2 : us'.size = ys.length := by simpa using ReadsAll.length _ _ _ k4
              refine kat_lt h1 h3 k1 k3 (katLex_wal xs ys 0 _ _ _ _ h4 k4 (by simpa [wal] using hw _ hd _ hd') (by simpa [pl] using hp _ hd) (by simpa [pl] using hp _ hd') ?_ (by rw [n1, n2]) hq')
              have q := room_in hroom
              omega
      obtain ⟨kd, hk, hrun⟩ := kk_tuples (M := model prog w) (A := A) e ht
      exact ⟨kd, lt kd hk, fun _ E Q hq => hrun E hq⟩
    · -- none is a tuple
      have hn : ∀ d ∈ ds, (∀ xs, d ≠ .tuple xs) := by
        intro d hd xs q
        subst q
        refine ht fun d' hd' => ?_
        have q := hw _ hd _ hd'
        cases d' with
        | tuple ys => exact ⟨ys, rfl⟩
        | _ => cases q
      refine ⟨oneType', fun E x y a b Q ha hb hq => ?_, fun h2 E Q hq => ?_⟩
      · rw [keyLt'_oneType]
        exact one true E x y a b ha hb hq
      · cases ds with
        | nil =>
          cases e
          exact absurd h2 (by simp)
        | cons d₀ ds₀ =>
          refine kas_kind (T := dataType d₀) h2 (fun v hv => ?_) (dataType_other (hn d₀ (List.mem_cons_self ..))) (beq_self_eq_true _) hq
          obtain ⟨d, hd, as, r⟩ := e.left v hv
          have q := hw d hd d₀ (List.mem_cons_self ..)
          have same : dataType d = dataType d₀ := by
            cases d <;> cases d₀ <;> first | rfl | (cases q)
          rw [← same]
          exact looks_reads r
end
end LB
end
section
set_option autoImplicit false
set_option Elab.async false
set_option linter.all false
set_option maxRecDepth 100000
set_option maxHeartbeats 4000000
/-! Hash tables of up to 512 slots: a free slot is met, a table laid anew is whole. -/
namespace LB
open PySem PyProof.Rows L2

/-- masks met here -/
def Mk (m : Nat) : Prop := m = 7 ∨ m = 31 ∨ m = 127 ∨ m = 511
def goL (m : Nat) : Nat → Nat → List Nat
  | 0, _ => []
  | n + 1, x => x :: goL m n ((x * 5 + 1) % (m + 1))
def bitsOf : List Nat → Nat
  | [] => 0
  | x :: r => 2 ^ x ||| bitsOf r
theorem bitsOf_mem {j : Nat} : ∀ l : List Nat, (bitsOf l).testBit j = true → j ∈ l
  | [], h => by simp [bitsOf] at h
  | x :: r, h => by
    rw [bitsOf, Nat.testBit_or, Bool.or_eq_true] at h
    rcases h with h | h
    · rw [Nat.testBit_two_pow] at h
      have e : x = j := by simpa using h
      rw [e]
      exact List.mem_cons_self
    · exact List.mem_cons_of_mem _ (bitsOf_mem r h)
theorem goL_mem {m j : Nat} : ∀ (n a : Nat), j ∈ goL m n (lcgN m a) → ∃ b, b < n ∧ lcgN m (a + b) = j
  | 0, _, h => by cases h
  | n + 1, a, h => by
    rcases List.mem_cons.mp h with e | h
    · exact ⟨0, Nat.succ_pos _, e.symm⟩
    · obtain ⟨b, hb, e⟩ := goL_mem n (a + 1) h
      exact ⟨b + 1, Nat.succ_lt_succ hb, by rw [← e, Nat.add_assoc, Nat.add_comm 1 b]⟩
theorem full7 : bitsOf (goL 7 8 0) = 2 ^ 8 - 1 := by decide +kernel
theorem full31 : bitsOf (goL 31 32 0) = 2 ^ 32 - 1 := by decide +kernel
theorem full127 : bitsOf (goL 127 128 0) = 2 ^ 128 - 1 := by decide +kernel
theorem full511 : bitsOf (goL 511 512 0) = 2 ^ 512 - 1 := by decide +kernel
theorem back7 : lcgN 7 8 = 0 := by decide +kernel
theorem back31 : lcgN 31 32 = 0 := by decide +kernel
theorem back127 : lcgN 127 128 = 0 := by decide +kernel
theorem back511 : lcgN 511 512 = 0 := by decide +kernel
theorem round_of {m j : Nat} (h : bitsOf (goL m (m + 1) 0) = 2 ^ (m + 1) - 1) (hj : j ≤ m) : ∃ b, b ≤ m ∧ lcgN m b = j := by
  have t : (bitsOf (goL m (m + 1) 0)).testBit j = true := by
    rw [h, Nat.testBit_two_pow_sub_one]
    exact decide_eq_true (by omega)
  obtain ⟨b, hb, e⟩ := goL_mem (m + 1) 0 (bitsOf_mem _ t)
  exact ⟨b, by omega, by rw [Nat.zero_add] at e; exact e⟩
theorem Mk.all {m j : Nat} (hm : Mk m) (hj : j ≤ m) : ∃ b, b ≤ m ∧ lcgN m b = j := by
  rcases hm with rfl | rfl | rfl | rfl
  · exact round_of full7 hj
  · exact round_of full31 hj
  · exact round_of full127 hj
  · exact round_of full511 hj
theorem Mk.back {m : Nat} (hm : Mk m) : lcgN m (m + 1) = 0 := by
  rcases hm with rfl | rfl | rfl | rfl
  · exact back7
  · exact back31
  · exact back127
  · exact back511
theorem Mk.odd {m : Nat} (hm : Mk m) : m % 2 = 1 := by
  rcases hm with rfl | rfl | rfl | rfl <;> rfl
theorem Mk.le {m : Nat} (hm : Mk m) : m ≤ 511 := by
  rcases hm with rfl | rfl | rfl | rfl <;> decide
theorem Mk.again {m : Nat} (hm : Mk m) (k : Nat) : lcgN m (m + 1 + k) = lcgN m k := by
  induction k with
  | zero => exact hm.back
  | succ k ih => exact congrArg (fun z => (z * 5 + 1) % (m + 1)) ih
theorem Mk.from {m i j : Nat} (hm : Mk m) (hi : i ≤ m) (hj : j ≤ m) : ∃ k, k ≤ m ∧ lcgI m i k = j := by
  obtain ⟨a, ha, rfl⟩ := hm.all hi
  obtain ⟨b, hb, rfl⟩ := hm.all hj
  by_cases c : a ≤ b
  · refine ⟨b - a, by omega, (lcgN_add m a _).trans (congrArg _ (by omega))⟩
  · refine ⟨m + 1 + b - a, by omega, (lcgN_add m a _).trans ?_⟩
    rw [show a + (m + 1 + b - a) = m + 1 + b from by omega]
    exact hm.again b
theorem Mk.meets {m : Nat} (hm : Mk m) (h : Int) {j : Nat} (hj : j ≤ m) : ∃ n, n ≤ m + 12 ∧ runI m (SetTable.bits h) n = j := by
  obtain ⟨k, hk, e⟩ := hm.from (runI_le m (SetTable.bits h) 12) hj
  exact ⟨12 + k, by omega, (runI_tail (bits_lt h) k).trans e⟩
/-- the j-th place of a search for the hash h, as far as the mask tells -/
abbrev wy (m : Nat) (h : Int) (k : Nat) : Nat := (nth m (runAt m (SetTable.bits h % (m + 1)) (SetTable.bits h)) k).j
theorem Mk.nth {m : Nat} (hm : Mk m) (h : Int) {j : Nat} (hj : j ≤ m) : ∃ k, k < 10 * SetTable.turns m ∧ wy m h k = j := by
  obtain ⟨n, hn, e⟩ := hm.meets h hj
  obtain ⟨k, hk, e2⟩ := run_nth m (SetTable.bits h) n
  exact ⟨k, by unfold SetTable.turns; omega, (congrArg SetTable.Probe.j e2).trans e⟩
theorem wy_le (m : Nat) (h : Int) (k : Nat) : wy m h k ≤ m := by
  have hi : SetTable.bits h % (m + 1) ≤ m := Nat.le_of_lt_succ (Nat.mod_lt _ (Nat.succ_pos m))
  have b := runEnd_bd hi
  have st : (runAt m (SetTable.bits h % (m + 1)) (SetTable.bits h)).j + (runAt m (SetTable.bits h % (m + 1)) (SetTable.bits h)).more ≤ m := by
    show SetTable.bits h % (m + 1) + (SetTable.runEnd m (SetTable.bits h % (m + 1)) - SetTable.bits h % (m + 1)) ≤ m
    omega
  have q := nth_in (m := m) k _ st
  exact Nat.le_trans (Nat.le_add_right _ _) q
/-- the table's shape -/
structure Tb (t : SetTable) (n : Nat) : Prop where
  up : Ris t.place.toList
  nod : t.dummies = #[]
  sz : t.place.size = n
  mok : Mk t.mask
  lo : ∀ x ∈ t.place.toList, x ≤ t.mask
  room : n * 5 < t.mask * 3
theorem Tb.fits {t : SetTable} {n : Nat} (T : Tb t n) : t.fits n = true := by
  have h2 := T.sz
  have h3 := T.room
  unfold SetTable.fits SetTable.fill
  rw [T.nod, Bool.and_eq_true, beq_iff_eq, decide_eq_true_eq]
  refine ⟨h2, ?_⟩
  show t.place.size + 0 ≤ t.mask
  omega
theorem Tb.free {t : SetTable} {n : Nat} (T : Tb t n) (h : Int) : ∃ K, K < 10 * SetTable.turns t.mask ∧ wy t.mask h K ∉ t.place.toList ∧ ∀ k, k < K → wy t.mask h k ∈ t.place.toList := by
  have hr := T.room
  have hs := T.sz
  obtain ⟨j, hj, hn⟩ := st_missing t.place.toList (t.mask + 1) (by rw [Array.length_toList]; omega)
  obtain ⟨k, hk, e⟩ := T.mok.nth h (Nat.le_of_lt_succ hj)
  obtain ⟨K, a, b, c⟩ := st_least (p := fun k => wy t.mask h k ∉ t.place.toList) k (fun z => hn (e ▸ z))
  exact ⟨K, by omega, b, fun k' hk' => Classical.byContradiction fun z => c k' hk' z⟩
theorem Tb.put {t : SetTable} {n : Nat} (T : Tb t n) {j : Nat} (hj : j ≤ t.mask) (hn : j ∉ t.place.toList) :
    (t.put j).2 ≤ n ∧ Ris (t.put j).1.place.toList ∧ (t.put j).1.dummies = #[] ∧ (t.put j).1.place.size = n + 1 ∧ (∀ x ∈ (t.put j).1.place.toList, x ≤ t.mask) ∧
    (t.put j).1.mask = t.mask ∧ (t.put j).1.led = t.led ∧ (t.put j).1.fill = n + 1 := by
  obtain ⟨cut, _, _⟩ := below_cut T.up j
  have e := put_place t j
  have hl : SetTable.below t.place j ≤ t.place.toList.length := by rw [Array.length_toList]; exact cut
  have size1 : (t.put j).1.place.size = n + 1 := by
    have q := congrArg List.length e
    rw [len_ins _ hl, Array.length_toList, Array.length_toList, T.sz] at q
    exact q
  refine ⟨?_, ris_insert T.up (fun z => hn ?_), put_dm T.nod j, size1, fun x hx => ?_, rfl, rfl, ?_⟩
  · have q : SetTable.below t.place j ≤ n := by rw [← T.sz]; exact cut
    exact q
  · rw [← Array.getElem?_toList] at z
    exact List.mem_of_getElem? z
  · rw [e] at hx
    rcases mem_ins.mp hx with rfl | hx
    · exact hj
    · exact T.lo x hx
  · unfold SetTable.fill
    rw [size1, put_dm T.nod j]
    rfl

/-! ### laid anew -/
structure Ow (m n : Nat) (ow : Array (Option Nat)) : Prop where
  sz : ow.size = m + 1
  has : ∀ k, k < n → ∃ j, j ≤ m ∧ oAt ow j = some k
  few : ∃ l : List Nat, l.length = n ∧ ∀ j, j ≤ m → oAt ow j ≠ none → j ∈ l
theorem Ow.step {m n : Nat} {ow : Array (Option Nat)} (hm : Mk m) (W : Ow m n ow) (hn : n ≤ m) (h : Int) :
    ∃ j, SetTable.layClean.free m ow (SetTable.turns m) (SetTable.bits h % (m + 1)) (SetTable.bits h) = some j ∧ Ow m (n + 1) (ow.setIfInBounds j (some n)) := by
  obtain ⟨l, hl, hin⟩ := W.few
  obtain ⟨f, hf, hnf⟩ := st_missing l (m + 1) (by omega)
  have free : oAt ow f = none := by
    rcases e : oAt ow f with _ | k
    · rfl
    · exact absurd (hin f (Nat.le_of_lt_succ hf) (by rw [e]; simp)) hnf
  obtain ⟨r, hr, er⟩ := hm.meets h (Nat.le_of_lt_succ hf)
  have at_ : wy m h (off m (SetTable.bits h % (m + 1)) (SetTable.bits h) r) = f := by
    have q := nth_off m r (SetTable.bits h % (m + 1)) (SetTable.bits h)
    rw [itL_run] at q
    exact (congrArg SetTable.Probe.j q).trans er
  obtain ⟨K, k1, k2, k3⟩ := st_least (p := fun k => (oAt ow (wy m h k)).isNone = true) (off m (SetTable.bits h % (m + 1)) (SetTable.bits h) r) (by
    show (oAt ow (wy m h _)).isNone = true
    rw [at_, free]; rfl)
  have found := free_spec m ow (SetTable.turns m) r (SetTable.bits h % (m + 1)) (SetTable.bits h) K (by unfold SetTable.turns; omega) k1
    (fun k hk => Bool.eq_false_iff.mpr (k3 k hk)) k2
  have none_ : oAt ow (wy m h K) = none := by
    have q : (oAt ow (wy m h K)).isNone = true := k2
    simpa using q
  have hjm := wy_le m h K
  have self := oAt_set_self (some n) (show wy m h K < ow.size by rw [W.sz]; omega)
  refine ⟨wy m h K, found, ⟨(Array.size_setIfInBounds ..).trans W.sz, fun k hk => ?_, ⟨wy m h K :: l, by rw [List.length_cons, hl], fun j hj hne => ?_⟩⟩⟩
  · by_cases c : k = n
    · exact ⟨_, hjm, c ▸ self⟩
    · obtain ⟨j, hj, e⟩ := W.has k (by omega)
      exact ⟨j, hj, (oAt_set_ne _ (fun z => by rw [z, none_] at e; cases e)).trans e⟩
  · by_cases c : j = wy m h K
    · exact c ▸ List.mem_cons_self
    · rw [oAt_set_ne _ c] at hne
      exact List.mem_cons_of_mem _ (hin j hj hne)
theorem lay_fold {m : Nat} (hm : Mk m) : ∀ (hs : List Int) (n : Nat) (ow : Array (Option Nat)), Ow m n ow → n + hs.length ≤ m →
    ∃ ow', hs.foldl (stepF m) (some (ow, n)) = some (ow', n + hs.length) ∧ Ow m (n + hs.length) ow'
  | [], n, ow, W, _ => ⟨ow, rfl, W⟩
  | h :: hs, n, ow, W, hl => by
    rw [List.length_cons] at hl
    obtain ⟨j, e, W1⟩ := W.step hm (by omega) h
    obtain ⟨ow', f, W2⟩ := lay_fold hm hs (n + 1) _ W1 (by omega)
    rw [show n + 1 + hs.length = n + (h :: hs).length by rw [List.length_cons]; omega] at f W2
    exact ⟨ow', by rw [List.foldl_cons, stepF_some e]; exact f, W2⟩
/-- a table laid anew -/
theorem laid_anew (t : SetTable) {hs : Array Int} {wanted M : Nat} (hw : SetTable.sizeAbove wanted - 1 = M) (hM : Mk M) (hn : hs.size * 5 < M * 3) :
    ∃ t' order, t.relaid hs wanted = some (t', order) ∧ order.toList.Perm (List.range hs.size) ∧ Tb t' hs.size ∧ t'.mask = M ∧ t'.led = t.led := by
  have start : Ow M 0 (Array.replicate (M + 1) none) := by
    refine ⟨by simp, fun k hk => absurd hk (Nat.not_lt_zero k), ⟨[], rfl, fun j hj e => absurd (oAt_init hj) e⟩⟩
  obtain ⟨ow, f, W⟩ := lay_fold hM hs.toList 0 _ start (by rw [Array.length_toList]; omega)
  rw [Nat.zero_add, Array.length_toList] at f W
  have clean : SetTable.layClean M hs = some ow := by
    rw [layClean_eq, f]; rfl
  have made : t.relaid hs wanted = some (tabOf t M ow, ((liveOf M ow).map (·.2)).toArray) := by
    rw [relaid_eq, hw, clean]; rfl
  obtain ⟨r1, r2⟩ := ris_live (fun j => ow.getD j none) (List.range (M + 1)) (List.pairwise_lt_range)
  have r1 : Ris ((liveOf M ow).map (·.1)) := r1
  have r2 : ∀ x ∈ (liveOf M ow).map (·.1), x ∈ List.range (M + 1) := r2
  have len : (liveOf M ow).length = hs.size := by
    obtain ⟨l, hl, hin⟩ := W.few
    refine Nat.le_antisymm ?_ ?_
    · have nd : ((liveOf M ow).map (·.1)).Nodup := List.Pairwise.imp (fun h => Nat.ne_of_lt h) r1
      have q := nat_nodup_len _ l nd fun x hx => by
        obtain ⟨⟨y, k⟩, hq, rfl⟩ := List.mem_map.mp hx
        obtain ⟨b1, b2⟩ := (mem_live W.sz).1 hq
        exact hin y b1 (by rw [b2]; simp)
      rwa [List.length_map, hl] at q
    · have q := nat_nodup_len (List.range hs.size) ((liveOf M ow).map (·.2)) List.nodup_range fun k hk => by
        obtain ⟨j, b1, b2⟩ := W.has k (List.mem_range.mp hk)
        exact List.mem_map.mpr ⟨(j, k), (mem_live W.sz).2 ⟨b1, b2⟩, rfl⟩
      rwa [List.length_map, List.length_range] at q
  refine ⟨_, _, made, perm_range hs.size _ (by show ((liveOf M ow).map (·.2)).length = _; rw [List.length_map, len]) fun k hk => ?_, ⟨r1, rfl, ?_, hM, fun x hx => ?_, hn⟩, rfl, rfl⟩
  · obtain ⟨j, b1, b2⟩ := W.has k hk
    exact List.mem_map.mpr ⟨(j, k), (mem_live W.sz).2 ⟨b1, b2⟩, rfl⟩
  · show ((liveOf M ow).map (·.1)).toArray.size = hs.size
    rw [List.size_toArray, List.length_map, len]
  · exact Nat.le_of_lt_succ (List.mem_range.mp (r2 x hx))
theorem grow5 : SetTable.sizeAbove (SetTable.grown 5) = 32 := by decide +kernel
theorem grow19 : SetTable.sizeAbove (SetTable.grown 19) = 128 := by decide +kernel
theorem grow77 : SetTable.sizeAbove (SetTable.grown 77) = 512 := by decide +kernel
end LB
end
section
set_option autoImplicit false
set_option Elab.async false
set_option linter.all false
set_option maxRecDepth 100000
set_option maxHeartbeats 4000000
/-! Adding a tuple (nested, at any depth up to 8) to a set of such. -/
namespace LB
open PySem PySem.Spec PyProof.Rows L2

section
variable {P : Program} {w : World}
/-- small questions of a nested key -/
theorem cls_key : ∀ (n : Nat) (k : NestedKey) (v : Value) (s : Shared), NestedIs s.heap k v → k.depth ≤ n → ∀ (A : Around) (E : Value → Shared → Prop) (Q : Bool → Shared → Prop), Q false s → wpAny (model P w) A (ofAClassStatement n v) Q E s
  | n, .none, _, s, x, _, A, E, Q, h => by cases x; cases n <;> exact wpAny_pure h
  | n, .num i, _, s, x, _, A, E, Q, h => by cases x <;> cases n <;> exact wpAny_pure h
  | n, .text y, _, s, x, _, A, E, Q, h => by cases x; cases n <;> exact wpAny_pure h
  | 0, .tup ks, _, s, x, hd, A, E, Q, h => by simp [NestedKey.depth] at hd
  | n + 1, .tup ks, _, s, x, hd, A, E, Q, h => by
    cases x with
    | @tup a o vs m _ hg hc hv hk =>
      have all : ∀ v ∈ vs.toList, ∀ (A : Around) (E : Value → Shared → Prop) (Q : Bool → Shared → Prop), Q false s → wpAny (model P w) A (ofAClassStatement n v) Q E s := by
        have q : NestedKey.depthAll ks ≤ n := by simp only [NestedKey.depth] at hd; omega
        clear hd hv
        generalize vs.toList = us at hk
        induction hk using NestedAll.rec (motive_1 := fun _ _ _ => True) with
        | nil => intro v hv; cases hv
        | cons h1 h2 _ ih =>
          simp only [NestedKey.depthAll] at q
          intro v hv
          rcases List.mem_cons.mp hv with e | hv
          · subst e
            exact cls_key n _ _ s h1 (by omega)
          · exact ih (by omega) v hv
        | _ => trivial
      unfold ofAClassStatement
      have hT : s.TypeIs (.ref a) "tuple" := ⟨o, hg, hc⟩
      refine wpAny_bind (wpAny_typeOf hT ?_)
      dsimp only
      have yes : (("tuple" : String) == "tuple") = true := by decide
      simp only [yes, if_true]
      refine wpAny_bind (wpAny_pure ?_)
      simp only [Bool.not_true, Bool.false_eq_true, if_false]
      show wpAny _ _ (seqItems? (.ref a) >>= _) _ _ s
      refine wpAny_bind (wpAny_seqItems hg hv ?_)
      dsimp only
      refine wpAny_bind ?_
      show wpAny _ _ (forIn vs _ _) _ _ s
      rw [← Array.forIn_toList]
      refine wpAny_forIn_list _ (fun rest r s' => r.1 = none ∧ s' = s ∧ ∀ v ∈ rest, v ∈ vs.toList) _ ?_ ?_ _ _ ⟨rfl, rfl, fun v hv => hv⟩
      · rintro v rest r s' ⟨_, rfl, sub⟩
        refine wpAny_bind (all v (sub v List.mem_cons_self) _ _ _ ?_)
        simp only [Bool.false_eq_true, if_false]
        exact wpAny_pure ⟨rfl, rfl, fun u hu => sub u (List.mem_cons_of_mem _ hu)⟩
      · rintro ⟨r1, r2⟩ s' ⟨e, rfl, _⟩
        simp only at e
        subst e
        exact wpAny_pure h
/-- whether the hash is told by the value: something is answered -/
theorem byv_key : ∀ (n : Nat) (k : NestedKey) (v : Value) (s : Shared), NestedIs s.heap k v → ∃ b, ∀ (A : Around) (E : Value → Shared → Prop) (Q : Bool → Shared → Prop), Q b s → wpAny (model P w) A (hashByValue n v) Q E s
  | n, .none, _, s, x => by cases x; exact ⟨true, fun A E Q h => by cases n <;> exact wpAny_pure h⟩
  | n, .num i, _, s, x => by cases x <;> exact ⟨true, fun A E Q h => by cases n <;> exact wpAny_pure h⟩
  | n, .text y, _, s, x => by cases x; exact ⟨false, fun A E Q h => by cases n <;> exact wpAny_pure h⟩
  | 0, .tup ks, _, s, x => by cases x; exact ⟨false, fun A E Q h => wpAny_pure h⟩
  | n + 1, .tup ks, _, s, x => by
    cases x with
    | @tup a o vs m _ hg hc hv hk =>
      have all : ∀ v ∈ vs.toList, ∃ b, ∀ (A : Around) (E : Value → Shared → Prop) (Q : Bool → Shared → Prop), Q b s → wpAny (model P w) A (hashByValue n v) Q E s := by
        clear hv
        generalize vs.toList = us at hk
        induction hk using NestedAll.rec (motive_1 := fun _ _ _ => True) with
        | nil => intro v hv; cases hv
        | cons h1 h2 _ ih =>
          intro v hv
          rcases List.mem_cons.mp hv with e | hv
          · subst e
            exact byv_key n _ _ s h1
          · exact ih v hv
        | _ => trivial
      obtain ⟨f, hf⟩ : ∃ f : Value → Bool, ∀ v ∈ vs.toList, ∀ (A : Around) (E : Value → Shared → Prop) (Q : Bool → Shared → Prop), Q (f v) s → wpAny (model P w) A (hashByValue n v) Q E s := by
        refine ⟨fun v => if h : v ∈ vs.toList then (all v h).choose else true, fun v hv => ?_⟩
        have e : (if h : v ∈ vs.toList then (all v h).choose else true) = (all v hv).choose := dif_pos hv
        show ∀ (A : Around) (E : Value → Shared → Prop) (Q : Bool → Shared → Prop), Q (if h : v ∈ vs.toList then (all v h).choose else true) s → _
        rw [e]
        exact (all v hv).choose_spec
      refine ⟨vs.toList.all f, fun A E Q h => ?_⟩
      have hT : s.TypeIs (.ref a) "tuple" := ⟨o, hg, hc⟩
      unfold hashByValue
      refine wpAny_bind (wpAny_specialOf hT F.slot_tuple_hash.lookup ?_)
      show wpAny _ _ (seqItems? (.ref a) >>= _) _ _ s
      refine wpAny_bind (wpAny_seqItems hg hv ?_)
      refine wpAny_bind ?_
      show wpAny _ _ (forIn vs _ _) _ _ s
      rw [← Array.forIn_toList]
      generalize hvs : vs.toList = us at hf h
      have go : ∀ (us : List Value), (∀ v ∈ us, ∀ (A : Around) (E : Value → Shared → Prop) (Q : Bool → Shared → Prop), Q (f v) s → wpAny (model P w) A (hashByValue n v) Q E s) → ∀ (R : Option Bool × Unit → Shared → Prop),
          R (if us.all f = true then (none, ()) else (some false, ())) s →
          wpAny (model P w) A (forIn us ((none, ()) : Option Bool × Unit) fun x _ => do
            let b ← hashByValue n x
            if (!b) = true then pure (ForInStep.done (some false, ())) else
              pure (ForInStep.yield (none, ()))) R E s := by
        intro us
        induction us with
        | nil => intro _ R h; exact wpAny_pure h
        | cons u us ih =>
          intro hf R h
          rw [List.forIn_cons]
          refine wpAny_bind (wpAny_bind (hf u List.mem_cons_self _ _ _ ?_))
          rw [List.all_cons] at h
          cases c : f u with
          | false =>
            simp only [c, Bool.not_false, if_true, Bool.false_and, Bool.false_eq_true, if_false] at h ⊢
            exact wpAny_pure (wpAny_pure h)
          | true =>
            simp only [c, Bool.not_true, Bool.false_eq_true, if_false, Bool.true_and] at h ⊢
            refine wpAny_bind (wpAny_pure (wpAny_pure ?_))
            exact ih (fun v hv => hf v (List.mem_cons_of_mem _ hv)) R h
      refine go us hf _ ?_
      by_cases c : us.all f = true
      · rw [if_pos c]
        rw [c] at h
        exact wpAny_pure h
      · rw [if_neg c]
        rw [Bool.eq_false_iff.mpr c] at h
        exact wpAny_pure h
end
end LB
end
section
set_option autoImplicit false
set_option Elab.async false
set_option linter.all false
set_option maxRecDepth 100000
set_option maxHeartbeats 4000000
/-! Search and add in a set of tuples of any depth up to 8. -/
namespace LB
open PySem PySem.Spec PyProof.Rows L2

/-- v is a tuple that can be a key -/
def TupKey (h : Heap) (k : NestedKey) (v : Value) : Prop := (∃ b, v = .ref b) ∧ NestedIs h k v ∧ k.depth ≤ 8
section
variable {P : Program} {w : World} {A : Around} {E : Value → Shared → Prop} {s : Shared}
theorem seen_key {k : NestedKey} {v : Value} {Q : Bool → Shared → Prop} (hv : TupKey s.heap k v) {ys : List Value} (hy : ∀ y ∈ ys, ∃ k', TupKey s.heap k' y) (h : Q false s) :
    wpAny (model P w) A (searchCouldBeSeen v ys) Q E s := by
  obtain ⟨⟨b, rfl⟩, hk, hd⟩ := hv
  unfold searchCouldBeSeen
  refine wpAny_bind (wpAny_forIn_list _ (fun rest r s' => r.1 = none ∧ s' = s ∧ ∀ y ∈ rest, ∃ k', TupKey s.heap k' y) _ ?_ ?_ _ _ ⟨rfl, rfl, hy⟩)
  · rintro y rest r s' ⟨_, rfl, sub⟩
    have more : ∀ y ∈ rest, ∃ k', TupKey s'.heap k' y := fun u hu => sub u (List.mem_cons_of_mem _ hu)
    obtain ⟨k', ⟨c, rfl⟩, hk', hd'⟩ := sub y List.mem_cons_self
    dsimp only
    by_cases same : (b == c || (carriedByValue (.ref b) && carriedByValue (.ref c))) = true
    · exact wp_if_pos same (wpAny_pure ⟨rfl, rfl, more⟩)
    · refine wp_if_neg same (wpAny_bind (quiet_key k _ 8 _ hk hd _ _ _ ?_))
      simp only [Bool.not_true, Bool.false_eq_true, if_false]
      refine wpAny_bind (quiet_key k' _ 8 _ hk' hd' _ _ _ ?_)
      simp only [Bool.not_true, Bool.false_eq_true, if_false]
      refine wpAny_bind (cls_key 8 k _ _ hk hd _ _ _ ?_)
      simp only [Bool.false_eq_true, if_false]
      refine wpAny_bind (cls_key 8 k' _ _ hk' hd' _ _ _ ?_)
      simp only [Bool.false_eq_true, if_false]
      exact wpAny_pure ⟨rfl, rfl, more⟩
  · rintro ⟨r1, r2⟩ s' ⟨e, rfl, _⟩
    simp only at e
    subst e
    exact wpAny_pure h
theorem nth_clean (m : Nat) : ∀ (n : Nat) (p : SetTable.Probe), p.dummy = none → (nth m p n).dummy = none
  | 0, _, h => h
  | n + 1, p, h => nth_clean m n _ (by unfold adv; split <;> exact h)
variable {a : Addr} {o : Obj} {es : Array (Int × Value)} {ep : Nat} {t : SetTable} {k : NestedKey} {v : Value}
abbrev st0 (t : SetTable) (h : Int) : SetTable.Probe := runAt t.mask (SetTable.bits h % (t.mask + 1)) (SetTable.bits h)
/-- the search -/
theorem look_from (ho : s.heap.get? a = some o) (hd : o.data = .set es ep t) (T : Tb t es.size) (hes : ∀ e ∈ es.toList, ∃ k', TupKey s.heap k' e.2)
    (hv : TupKey s.heap k v) (hu : A.units + 8 < cLine) {H : Int} {K : Nat} (hKf : K < 10 * SetTable.turns t.mask)
    (hK : wy t.mask H K ∉ t.place.toList) (hKb : ∀ c, c < K → wy t.mask H c ∈ t.place.toList) {Q : SetFound → Shared → Prop}
    (hin : (∃ e ∈ es.toList, NestedIs s.heap k e.2) → Q (.there none) s) (hout : Q (.free (wy t.mask H K) false) s) :
    ∀ (f c : Nat) (stand : Option SetTable.Probe), stand.getD (t.probeStart H) = nth t.mask (st0 t H) c → c ≤ K → K - c < f →
      wpAny (model P w) A (setSearchFrom a v H true f stand) Q E s
  | 0, _, _, _, _, hf => absurd hf (Nat.not_lt_zero _)
  | f + 1, c, stand, hst, hc, hf => by
    rw [setSearchFrom_succ]
    refine wpAny_bind (wpAny_setState_of ho hd T.fits ?_)
    dsimp only
    have odd : ¬ t.gaveWay = true := by unfold SetTable.gaveWay; rw [T.mok.odd]; decide
    refine wp_if_neg odd ?_
    try refine wpAny_bind (wpAny_pure ?_)
    have sh : ∀ q, nth t.mask (nth t.mask (st0 t H) c) q = nth t.mask (st0 t H) (c + q) := fun q => (nth_add t.mask c _ q).symm
    have ej : ∀ q, (nth t.mask (nth t.mask (st0 t H) c) q).j = wy t.mask H (c + q) := fun q => congrArg SetTable.Probe.j (sh q)
    rcases go_spec t T.up T.nod (fun i => (es[i]?.map (·.1)).getD 0) H (10 * SetTable.turns t.mask) (K - c) _ (nth_clean t.mask c _ rfl) (by omega)
      (fun q hq => by rw [ej]; exact hKb _ (by omega)) (by rw [ej, show c + (K - c) = K by omega]; exact hK) with ⟨q, i, hq, hi, _, _, hpr⟩ | ⟨_, hpr⟩
    · have met : t.probe (fun i => (es[i]?.map (·.1)).getD 0) H (stand.getD (t.probeStart H)) = some (.candidate (wy t.mask H (c + q)) i (nth t.mask (st0 t H) (c + (q + 1)))) := by
        rw [hst, ← ej, ← sh]
        exact hpr
      rw [met]
      dsimp only
      rw [ej] at hi
      have hil : i < es.size := by
        have h1 := (List.getElem?_eq_some_iff.mp hi).1
        rw [Array.length_toList, T.sz] at h1
        exact h1
      obtain ⟨e, he, hmem⟩ : ∃ e, es[i]? = some e ∧ e ∈ es.toList := ⟨es[i], Array.getElem?_eq_getElem hil, Array.getElem_mem_toList hil⟩
      obtain ⟨k', ⟨b', eb⟩, hk', hd'⟩ := hes e hmem
      have hk := hv.2.1
      have rest : wpAny (model P w) A (searchRest a v H true f es t (wy t.mask H (c + q)) i (nth t.mask (st0 t H) (c + (q + 1)))) Q E s := by
        unfold searchRest
        rw [he]
        dsimp only
        refine wpAny_bind (wpAny_holding (eqAt_key k' k A s e.2 v hk' hk (by omega) _ _ _ _ ?_))
        refine wpAny_bind (wpAny_setState_of ho hd T.fits ?_)
        dsimp only
        cases ee : NestedKey.beq k' k with
        | true =>
          refine wp_if_pos (by rfl) (wpAny_pure (hin ⟨e, hmem, ?_⟩))
          rw [← NestedKey.eq_of_beq _ _ ee]
          exact hk'
        | false =>
          refine wp_if_neg (by simp) ?_
          try refine wpAny_bind (wpAny_pure ?_)
          rw [sameMem]
          dsimp only
          have hsl : t.slot (wy t.mask H (c + q)) = .live i := slot_live T.up hi
          simp only [if_true, hsl, he, eb]
          refine wpAny_bind (wpAny_isSame_ref_self (wpAny_bind (wpAny_pure ?_)))
          simp only [if_true]
          refine wp_if_neg (by simp) ?_
          exact look_from ho hd T hes hv hu hKf hK hKb hin hout f (c + (q + 1)) _ rfl (by omega) (by omega)
      by_cases hl : t.led = true
      · refine wp_if_neg (by simp [hl]) ?_
        try refine wpAny_bind (wpAny_pure ?_)
        exact rest
      · refine wp_if_pos (by simp [hl]) (wpAny_bind (seen_key hv (fun y hy => ?_) ?_))
        · obtain ⟨e2, he2, rfl⟩ := List.mem_map.mp hy
          have q2 : e2 ∈ es ∧ e2.1 = H := by simpa using he2
          exact hes e2 (by simpa using q2.1)
        · refine wp_if_neg (by decide) ?_
          try refine wpAny_bind (wpAny_pure ?_)
          exact rest
    · have met : t.probe (fun i => (es[i]?.map (·.1)).getD 0) H (stand.getD (t.probeStart H)) = some (.empty (wy t.mask H K) none) := by
        rw [hst, show wy t.mask H K = (nth t.mask (nth t.mask (st0 t H) c) (K - c)).j by rw [ej, show c + (K - c) = K by omega]]
        exact hpr
      rw [met]
      exact wpAny_pure hout
theorem look (ho : s.heap.get? a = some o) (hd : o.data = .set es ep t) (T : Tb t es.size) (hes : ∀ e ∈ es.toList, ∃ k', TupKey s.heap k' e.2)
    (hv : TupKey s.heap k v) (hu : A.units + 8 < cLine) {H : Int} {Q : SetFound → Shared → Prop}
    (hin : (∃ e ∈ es.toList, NestedIs s.heap k e.2) → Q (.there none) s) (hout : ∀ j, j ≤ t.mask → j ∉ t.place.toList → Q (.free j false) s) : wpAny (model P w) A (setSearch a v H true) Q E s := by
  obtain ⟨K, k1, k2, k3⟩ := T.free H
  have := T.mok.le
  unfold setSearch
  refine look_from ho hd T hes hv hu k1 k2 k3 hin (hout _ (wy_le _ _ _) k2) 100000 0 none rfl (Nat.zero_le _) ?_
  have : 10 * SetTable.turns t.mask ≤ 10 * SetTable.turns 511 := by unfold SetTable.turns; omega
  have : 10 * SetTable.turns 511 < 100000 := by decide
  omega
/-- laid anew -/
theorem relay (ho : s.heap.get? a = some o) (hd : o.data = .set es ep t) (hf : t.fits es.size = true) {wanted M : Nat} (hw : SetTable.sizeAbove wanted - 1 = M) (hM : Mk M) (hw2 : SetTable.sizeAbove wanted ≤ 512)
    (hn : es.size * 5 < M * 3) {Q : Unit → Shared → Prop}
    (hQ : ∀ es' t', es'.toList.Perm es.toList → Tb t' es'.size → t'.led = t.led → Q () { s with heap := s.heap.update a (Obj.putSet es' t') }) : wpAny (model P w) A (setRelay a wanted) Q E s := by
  obtain ⟨t', order, e, hp, T, em, el⟩ := laid_anew t (hs := es.map (·.1)) hw hM (by rw [Array.size_map]; exact hn)
  rw [Array.size_map] at hp T
  have key : (order.filterMap (es[·]?)).toList.Perm es.toList := by
    rw [Array.toList_filterMap]
    have q := hp.filterMap (fun i => es[i]?)
    refine q.trans (List.Perm.of_eq ?_)
    have gen : ∀ n, n ≤ es.size → (List.range n).filterMap (fun i => es[i]?) = es.toList.take n := by
      intro n
      induction n with
      | zero => intro _; rfl
      | succ n ih =>
        intro hn
        rw [List.range_succ, List.filterMap_append, ih (by omega), List.take_succ, Array.getElem?_toList, Array.getElem?_eq_getElem (by omega)]
        simp [Array.getElem?_eq_getElem (show n < es.size by omega)]
    rw [gen _ (Nat.le_refl _)]
    exact List.take_of_length_le (by simp)
  have hs2 : (order.filterMap (es[·]?)).size = es.size := by
    have q := key.length_eq
    rw [Array.length_toList, Array.length_toList] at q
    exact q
  rw [setRelay_eq]
  refine wpAny_bind (wpAny_setState_of ho hd hf ?_)
  dsimp only
  refine wp_if_neg (by rw [sizeLine_eq]; omega) ?_
  try refine wpAny_bind (wpAny_pure ?_)
  rw [e]
  dsimp only
  refine wpAny_bind (wp_if_neg (by rw [hs2]; simp) ?_)
  try refine wpAny_bind (wpAny_pure ?_)
  refine wpAny_pure ?_
  have hsm : es.size * 5 < 511 * 3 := by have := hM.le; omega
  exact wpAny_storeSet_of ho hd (hQ _ t' key (hs2.symm ▸ T) el) (by rw [hs2, sizeLine_eq]; omega)
end
end LB
end
section
set_option autoImplicit false
set_option Elab.async false
set_option linter.all false
set_option maxRecDepth 100000
set_option maxHeartbeats 4000000
/-! set(xs) of tuples of any depth. -/
namespace LB
open PySem PySem.Spec PyProof.Rows L2

/-- the set at a holds the first i of us, up to == -/
def Sk (w : World) (us : List Value) (ks : List NestedKey) (a : Addr) (i : Nat) (h : Heap) : Prop :=
  ∃ o es ep t, h.get? a = some o ∧ o.ExactSet ∧ o.data = .set es ep t ∧ Tb t es.size ∧ (∀ e ∈ es.toList, ∃ j : Nat, j < i ∧ us[j]? = some e.2) ∧
    (∀ (j : Nat) (k : NestedKey), j < i → ks[j]? = some k → ∃ e ∈ es.toList, ∃ j' : Nat, us[j']? = some e.2 ∧ ks[j']? = some k) ∧ es.size ≤ i ∧ (w.params.followText "set-order" = true ∨ t.led = true)
/-- us are tuples with the keys ks -/
def Tks (h : Heap) (us : List Value) (ks : List NestedKey) : Prop := us.length = ks.length ∧ ∀ (j : Nat) (v : Value) (k : NestedKey), us[j]? = some v → ks[j]? = some k → TupKey h k v
theorem Tks.at {h h' : Heap} {us : List Value} {ks : List NestedKey} (T : Tks h us ks) (hk : ∀ b o, h.get? b = some o → h'.get? b = some o) : Tks h' us ks :=
  ⟨T.1, fun j v k e1 e2 => ⟨(T.2 j v k e1 e2).1, NestedIs.at (fun a o vs n z _ => hk a o z) k v (T.2 j v k e1 e2).2.1, (T.2 j v k e1 e2).2.2⟩⟩
theorem Tks.key {h : Heap} {us : List Value} {ks : List NestedKey} (T : Tks h us ks) {j : Nat} {v : Value} (e : us[j]? = some v) : ∃ k, ks[j]? = some k ∧ TupKey h k v := by
  have hl : j < ks.length := by
    have q := (List.getElem?_eq_some_iff.mp e).1
    rw [T.1] at q
    exact q
  exact ⟨ks[j], List.getElem?_eq_getElem hl, T.2 j v _ e (List.getElem?_eq_getElem hl)⟩
section
variable {P : Program} {w : World} {A : Around} {E : Value → Shared → Prop} {s : Shared} {a : Addr} {us : List Value} {ks : List NestedKey}
theorem add_key {i : Nat} {v : Value} {k : NestedKey} (R : Sk w us ks a i s.heap) (T : Tks s.heap us ks) (hv : us[i]? = some v) (hk : ks[i]? = some k) (hu : A.units + 8 < cLine) (few : i + 1 ≤ 200) {H : Int} {Q : Bool → Shared → Prop}
    (hQ : ∀ b h', Heap.SameBut a s.heap h' → Sk w us ks a (i + 1) h' → Q b { s with heap := h' }) : wpAny (model P w) A (setAddHashed a v H) Q E s := by
  obtain ⟨o, es, ep, t, ho, hex, hd, tb, ent, all, hn, ld⟩ := R
  have tk := T.2 i v k hv hk
  have hes : ∀ e ∈ es.toList, ∃ k', TupKey s.heap k' e.2 := fun e he => by
    obtain ⟨j, _, hj⟩ := ent e he
    obtain ⟨k', _, q⟩ := T.key hj
    exact ⟨k', q⟩
  obtain ⟨⟨b, hb⟩, _, _⟩ := id tk
  unfold setAddHashed
  refine wpAny_holding ?_
  rw [show (100000 : Nat) = 99999 + 1 from rfl, setAddHashedIn_succ]
  refine wpAny_bind (wpAny_setState_of ho hd tb.fits ?_)
  dsimp only
  refine wp_if_neg (by rw [hb]; simp [byScan, Value.scannable]) ?_
  try refine wpAny_bind (wpAny_pure ?_)
  refine wpAny_bind (look ho hd tb hes tk hu (fun hin => ?_) fun j hj hjn => ?_)
  · refine wpAny_pure (hQ false s.heap (Heap.SameBut.refl a s.heap) ⟨o, es, ep, t, ho, hex, hd, tb, fun e he => ?_, fun j k' hj hk' => ?_, Nat.le_succ_of_le hn, ld⟩)
    · obtain ⟨j, hj, e1⟩ := ent e he
      exact ⟨j, Nat.lt_succ_of_lt hj, e1⟩
    · by_cases c : j < i
      · exact all j k' c hk'
      · have ej : j = i := by omega
        subst ej
        rw [hk] at hk'
        injection hk' with hk'
        subst hk'
        obtain ⟨e, he, z⟩ := hin
        obtain ⟨j', _, hj'⟩ := ent e he
        obtain ⟨k', e2, q⟩ := T.key hj'
        refine ⟨e, he, j', hj', ?_⟩
        rw [e2, NestedIs.inj _ _ _ q.2.1 z]
  · dsimp only
    refine wpAny_bind (wpAny_setState_of ho hd tb.fits ?_)
    dsimp only
    obtain ⟨q1, q2, q3, q4, q5, q6, q7, q8⟩ := tb.put hj hjn
    generalize hpt : t.put j = pt at q1 q2 q3 q4 q5 q6 q7 q8 ⊢
    obtain ⟨t1, p⟩ := pt
    dsimp only at q1 q2 q3 q4 q5 q6 q7 q8 ⊢
    have hin : (SetTable.insertAt es p (H, v)).toList.Perm ((H, v) :: es.toList) := by
      rw [SetTable.toList_insertAt]
      exact put_perm es.toList p (H, v)
    have hsz : (SetTable.insertAt es p (H, v)).size = es.size + 1 := by
      have q := hin.length_eq
      rw [List.length_cons, Array.length_toList, Array.length_toList] at q
      exact q
    generalize SetTable.insertAt es p (H, v) = es1 at hin hsz ⊢
    -- what stands after the store, whatever becomes of plain
    have rest : ∀ t2 : SetTable, t2.place = t1.place → t2.dummies = t1.dummies → t2.mask = t1.mask → t2.led = t1.led →
        wpAny (model P w) A (do
          storeSet a es1 t2
          if (!false && t2.tooFull) = true then setRelay a (SetTable.grown (es.size + 1)) else pure PUnit.unit
          pure true) Q E s := by
      intro t2 e1 e2 e3 e4
      refine wpAny_bind (wpAny_storeSet_of ho hd ?_ (by rw [hsz, sizeLine_eq]; omega))
      have sb : Heap.SameBut a s.heap (s.heap.update a (Obj.putSet es1 t2)) := Heap.SameBut.update ..
      have ho1 := store_at (es' := es1) (t' := t2) ho hd
      generalize s.heap.update a (Obj.putSet es1 t2) = h1 at sb ho1 ⊢
      have fill2 : t2.fill = es.size + 1 := by rw [← q8]; unfold SetTable.fill; rw [e1, e2]
      have ent1 : ∀ e ∈ es1.toList, ∃ j : Nat, j < i + 1 ∧ us[j]? = some e.2 := fun e he => by
        rcases List.mem_cons.mp (hin.mem_iff.mp he) with rfl | he
        · exact ⟨i, Nat.lt_succ_self i, hv⟩
        · obtain ⟨j, hj, q⟩ := ent e he
          exact ⟨j, Nat.lt_succ_of_lt hj, q⟩
      have all1 : ∀ (j : Nat) (k' : NestedKey), j < i + 1 → ks[j]? = some k' → ∃ e ∈ es1.toList, ∃ j' : Nat, us[j']? = some e.2 ∧ ks[j']? = some k' := fun j k' hj hk' => by
        by_cases c : j < i
        · obtain ⟨e, he, z⟩ := all j k' c hk'
          exact ⟨e, hin.mem_iff.mpr (List.mem_cons_of_mem _ he), z⟩
        · have ej : j = i := by omega
          subst ej
          exact ⟨(H, v), hin.mem_iff.mpr List.mem_cons_self, j, hv, hk'⟩
      have ld1 : w.params.followText "set-order" = true ∨ t2.led = true := by rw [e4, q7]; exact ld
      have shape : es1.size * 5 < t2.mask * 3 → Tb t2 es1.size := fun z => ⟨by rw [e1]; exact q2, by rw [e2]; exact q3, by rw [e1, hsz]; exact q4, by rw [e3, q6]; exact tb.mok, by rw [e1, e3, q6]; exact q5, z⟩
      have room0 := tb.room
      have hfit : t2.fits es1.size = true := by
        have hm := tb.mok
        unfold SetTable.fits
        rw [Bool.and_eq_true, beq_iff_eq, decide_eq_true_eq, fill2, e1, hsz, e3, q6]
        refine ⟨q4, ?_⟩
        rcases hm with z | z | z | z <;> omega
      by_cases hf : t2.tooFull = true
      · have full : (es.size + 1) * 5 ≥ t.mask * 3 := by
          unfold SetTable.tooFull at hf
          rw [decide_eq_true_eq, fill2, e3, q6] at hf
          exact hf
        simp only [hf, Bool.not_false, Bool.and_self, if_true]
        have go : ∀ M, SetTable.sizeAbove (SetTable.grown (es.size + 1)) - 1 = M → Mk M → SetTable.sizeAbove (SetTable.grown (es.size + 1)) ≤ 512 → (es.size + 1) * 5 < M * 3 →
            wpAny (model P w) A (setRelay a (SetTable.grown (es.size + 1)) >>= fun _ => pure true) Q E { s with heap := h1 } := fun M g1 g2 g3 g4 => by
          refine wpAny_bind (relay (s := { s with heap := h1 }) ho1 rfl hfit g1 g2 g3 (by rw [hsz]; exact g4) fun es2 t3 pm tb3 ld3 => wpAny_pure (hQ true _ (sb.trans (Heap.SameBut.update ..)) ?_))
          have ho2 := store_at (es' := es2) (t' := t3) ho1 rfl
          refine ⟨_, es2, _, t3, ho2, ⟨hex.1, hex.2.1, hex.2.2⟩, rfl, tb3, fun e he => ent1 e (pm.mem_iff.mp he), fun j k' hj hk' => ?_, ?_, by rw [ld3]; exact ld1⟩
          · obtain ⟨e, he, z⟩ := all1 j k' hj hk'
            exact ⟨e, pm.mem_iff.mpr he, z⟩
          · have q := pm.length_eq
            rw [Array.length_toList, Array.length_toList, hsz] at q
            omega
        rcases tb.mok with z | z | z | z
        · have e5 : es.size = 4 := by omega
          exact go 31 (by rw [e5, grow5]) (.inr (.inl rfl)) (by rw [e5, grow5]; decide) (by omega)
        · have e5 : es.size = 18 := by omega
          exact go 127 (by rw [e5, grow19]) (.inr (.inr (.inl rfl))) (by rw [e5, grow19]; decide) (by omega)
        · have e5 : es.size = 76 := by omega
          exact go 511 (by rw [e5, grow77]) (.inr (.inr (.inr rfl))) (by rw [e5, grow77]; decide) (by omega)
        · omega
      · have hf' : t2.tooFull = false := Bool.eq_false_iff.mpr hf
        have space : es1.size * 5 < t2.mask * 3 := by
          unfold SetTable.tooFull at hf
          rw [decide_eq_true_eq, fill2] at hf
          omega
        simp only [hf', Bool.and_false, Bool.false_eq_true, if_false]
        exact wpAny_bind (wpAny_pure (wpAny_pure (hQ true h1 sb ⟨_, es1, _, t2, ho1, ⟨hex.1, hex.2.1, hex.2.2⟩, rfl, shape space, ent1, all1, by omega, ld1⟩)))
    obtain ⟨bv, hbv⟩ := byv_key (P := P) (w := w) 8 k v s tk.2.1
    by_cases hp : t1.plain = true
    · rw [if_pos hp]
      refine wpAny_bind (hbv _ _ _ ?_)
      cases bv
      · exact rest { t1 with plain := false } rfl rfl rfl rfl
      · exact rest t1 rfl rfl rfl rfl
    · rw [if_neg hp]
      refine wpAny_bind (wpAny_pure ?_)
      exact rest t1 rfl rfl rfl rfl
end
end LB
end
section
set_option autoImplicit false
set_option Elab.async false
set_option linter.all false
set_option maxRecDepth 100000
set_option maxHeartbeats 6400000
/-! set(xs), told once for all kinds of items. -/
namespace LB
open PySem PySem.Spec PyProof.Rows L2

abbrev freshSet (w : World) : Obj := { cls := .type "set", dict := none, data := .set #[] 0 (.fresh 0 0 (!w.params.followText "set-order")) }
/-- one item more: R says what the set at S holds of the first i items -/
def AddsAt (P : Program) (w : World) (u : Nat) (h0 : Heap) (items : Array Value) (S : Addr) (R : Nat → Heap → Prop) : Prop :=
  ∀ (i : Nat) (v : Value) (A : Around) (E : Value → Shared → Prop) (s : Shared) (Q : Bool → Shared → Prop), items[i]? = some v → A.units = u → R i s.heap → (∀ b o, h0.get? b = some o → s.heap.get? b = some o) →
    (∀ b h' tk, s.toks ≤ tk → Heap.SameBut S s.heap h' → R (i + 1) h' → Q b { s with heap := h', toks := tk }) → wpAny (model P w) A (setAdd S v) Q E s
def KeepsAt (h0 : Heap) (S : Addr) (R : Nat → Heap → Prop) : Prop :=
  ∀ (i : Nat) (h h' : Heap), R i h → (∀ o, h.get? S = some o → h'.get? S = some o) → (∀ b o, h0.get? b = some o → h'.get? b = some o) → R i h'
section
variable {P : Program} {w : World} {A : Around} {E : Value → Shared → Prop} {s : Shared}
theorem update_gen {I : Addr} {fp wr : List Addr} {G : Array GenState → Array GenState → Prop} {items : Array Value} {Pv : Nat → Value → Prop} {St : Nat → Shared → Prop} {Z : Result → Shared → Prop} {R : Nat → Heap → Prop} {h0 : Heap} {S : Addr}
    (W : WalksS P w A.in1 I fp wr G items.size Pv St) (hSf : S ∉ fp) (hval : ∀ i v, Pv i v → items[i]? = some v) (hS0 : h0.get? S = none) (hw0 : ∀ b ∈ wr, h0.get? b = none)
    (add : AddsAt P w A.in1.units h0 items S R) (kp : KeepsAt h0 S R) :
    ∀ (left i : Nat) (s : Shared), items.size - i = left → i ≤ items.size → St i s → (∀ b o, h0.get? b = some o → s.heap.get? b = some o) → R i s.heap →
      (∀ s', Moved (S :: wr) G s s' → R items.size s'.heap → (∀ b o, h0.get? b = some o → s'.heap.get? b = some o) → Z (.ok (.ret .none)) s') →
      codeAny (model P w) A (.builtin "set.update.loop" ⟨[.ref S, .ref I], []⟩) Z s := by
  have out : S ∉ wr := fun h => hSf (W.sub _ h)
  have wider : ∀ b ∈ wr, b ∈ S :: wr := fun b hb => List.mem_cons_of_mem _ hb
  have old : ∀ {s s' : Shared}, Moved wr G s s' → (∀ b o, h0.get? b = some o → s.heap.get? b = some o) → ∀ b o, h0.get? b = some o → s'.heap.get? b = some o :=
    fun hm hp b o e => hm.heap b o (fun hb => by rw [hw0 b hb] at e; cases e) (hp b o e)
  intro left
  induction left with
  | zero =>
    intro i s hl hi hst hp hR hZ
    obtain rfl : i = items.size := by omega
    refine codeAny_builtin F.entry_set_update_loop ?_
    rw [Around.under_plainId F.plain_set_update_loop _]
    show wpAny _ A.in1 (pyNext (.ref I) >>= _) _ _ s
    refine wpAny_bind (W.done s _ _ hst fun s' hm => ?_)
    show wpAny _ A.in1 (ret Value.none) _ _ s'
    exact wpAny_pure (hZ s' (hm.mono wider) (kp _ _ _ hR (fun o e => hm.heap S o out e) (old hm hp)) (old hm hp))
  | succ left ih =>
    intro i s hl hi hst hp hR hZ
    have lt : i < items.size := by omega
    refine codeAny_builtin F.entry_set_update_loop ?_
    rw [Around.under_plainId F.plain_set_update_loop _]
    show wpAny _ A.in1 (pyNext (.ref I) >>= _) _ _ s
    refine wpAny_bind (W.item i s _ _ lt hst fun v s' hPv hst' hm => ?_)
    have hp1 := old hm hp
    show wpAny _ A.in1 (holding [v] (setAdd S v) >>= _) _ _ s'
    refine wpAny_bind (wpAny_holding (add i v _ _ s' _ (hval i v hPv) rfl (kp _ _ _ hR (fun o e => hm.heap S o out e) hp1) hp1 fun b h' tk ht sb hR1 => ?_))
    have hp2 : ∀ b o, h0.get? b = some o → h'.get? b = some o := fun b o e => (sb.2 b (fun z => by rw [z, hS0] at e; cases e)).trans (hp1 b o e)
    refine wpAny_pure ⟨plainId_quiet F.plain_set_update_loop _, ih (i + 1) _ (by omega) lt (W.frame _ s' _ _ hst' ht fun b hb o e => ?_) hp2 hR1 fun s2 hm2 hR2 hp3 => hZ s2 ?_ hR2 hp3⟩
    · rw [sb.2 b (fun z : b = S => hSf (z ▸ hb))]
      exact e
    · refine Moved.trans W.gtrans ((hm.mono wider).then_heap ht fun b o hb e => ?_) hm2
      rw [sb.2 b (fun z : b = S => hb (z ▸ List.mem_cons_self))]
      exact e
set_option maxRecDepth 100000 in
theorem call_set_gen {l : Addr} {items : Array Value} {R : Nat → Heap → Prop} {Q : Value → Shared → Prop} (hh : A.handled = none) (hl : s.heap.IsList l items) (add : AddsAt P w (A.units + 3) s.heap items s.heap.objs.size R) (kp : KeepsAt s.heap s.heap.objs.size R)
    (h0 : ∀ h, h.get? s.heap.objs.size = some (freshSet w) → (∀ b o, s.heap.get? b = some o → h.get? b = some o) → R 0 h)
    (hQ : ∀ (h' : Heap) (tk : Nat), R items.size h' → (∀ b o, s.heap.get? b = some o → h'.get? b = some o) → Q (.ref s.heap.objs.size) { s with heap := h', toks := tk }) :
    wpAny (model P w) A (call (.type "set") [.ref l]) Q E s := by
  obtain ⟨c, tl, hmro⟩ := F.called_set.mro
  have hmade := F.called_set.made
  have hsub := F.called_set.sub
  refine wpAny_call (codeAny_of_tree ?_)
  show wpAny _ _ (callAny (.type "set") _) _ _ _
  refine wpAny_pure ⟨Code.quiet_builtin _ (by decide +kernel), codeAny_builtin F.entry_type_call ?_⟩
  rw [Around.under_plain (weight_type_call_type "set" [.ref l] []) rfl]
  have h1 := F.called_set.notType
  have h2 := F.called_set.canCreate
  have hct := F.typeCall_set_1 (.ref l)
  repeat (any_goals (first | assumption | wp_step))
  refine codeAny_mono (code_set_led1 (.ref l) (E := E) (Q₁ := fun obj s₁ => obj = .ref s.heap.objs.size ∧ s₁ = { s with heap := s.heap.push (freshSet w) }) ⟨rfl, rfl⟩) fun r s₁ hr => ?_
  cases r with
  | error e => exact hr
  | ok fl =>
    cases fl with
    | ret obj =>
      obtain ⟨rfl, rfl⟩ := hr
      have at0 : (s.heap.push (freshSet w)).get? s.heap.objs.size = some (freshSet w) := Heap.get?_push_size _ rfl
      have hT : Shared.TypeIs { s with heap := s.heap.push (freshSet w) } (.ref s.heap.objs.size) "set" := ⟨_, at0, rfl⟩
      have hli := F.called_set.init.lookup
      have hbi := F.called_set.init.bind (.ref s.heap.objs.size)
      repeat (any_goals (first | assumption | wp_step))
      refine codeAny_mono (codeAny_call_builtin (R := wants (fun r s₂ => r = .none ∧ ∃ h' tk, s₂ = { s with heap := h', toks := tk } ∧ R items.size h' ∧ (∀ b o, s.heap.get? b = some o → h'.get? b = some o)) E) F.called_set.init.plain F.entry_set_init (check_set_init_1 hT ?_)) fun r₂ s₂ hr₂ => ?_
      · obtain ⟨ol, hol, hcl, nl, hdl⟩ := hl
        obtain ⟨ocls, odict, odata, oslots⟩ := ol
        simp only at hcl hdl
        subst hcl; subst hdl
        have hol' : (s.heap.push (freshSet w)).get? l = some { cls := .type "list", dict := odict, data := .seq items nl, slots := oslots } := Heap.get?_push_of_some _ hol
        have hsls := F.sub_list_set
        have hslf := F.sub_list_frozenset
        have hne : (Value.type "list" == Value.type "dict") = false := by decide
        have hl1 : (s.heap.push (freshSet w)).IsList l items := ⟨_, hol', rfl, nl, rfl⟩
        unfold Builtin.«set.__init__» noKeywords Builtin.Frozenset.updateFrom
        generalize hPI : pyIter = PI
        wp_walk
        subst hPI
        refine wpAny_pyIter_list hl1 ?_
        refine wpAny_bind (wpAny_runValue ?_)
        have hlS : l < s.heap.objs.size := Heap.lt_size hol
        have hh3 : A.in1.in1.in1.handled = none := by simp [hh]
        have hz : (s.heap.push (freshSet w)).objs.size = s.heap.objs.size + 1 := Heap.size_push ..
        have hneI : l ≠ (s.heap.push (freshSet w)).objs.size := by rw [hz]; exact Nat.ne_of_lt (Nat.lt_succ_of_lt hlS)
        have hSf : s.heap.objs.size ∉ [(s.heap.push (freshSet w)).objs.size, l] := by
          rw [hz]
          simp only [List.mem_cons, List.mem_singleton, List.not_mem_nil, or_false, not_or]
          exact ⟨Nat.ne_of_lt (Nat.lt_succ_self _), Nat.ne_of_gt hlS⟩
        have none_of : ∀ b, s.heap.objs.size ≤ b → s.heap.get? b = none := fun b hb => by
          cases q : s.heap.get? b with
          | none => rfl
          | some o => exact absurd (Nat.lt_of_lt_of_le (Heap.lt_size q) hb) (Nat.lt_irrefl _)
        have kept0 : ∀ b o, s.heap.get? b = some o → ((s.heap.push (freshSet w)).push { cls := .type "list_iterator", data := .fields #[.ref l, .int 0 0] }).get? b = some o := fun b o e => Heap.get?_push_of_some _ (Heap.get?_push_of_some _ e)
        refine update_gen ((Walks.list hh3 _ l hneI items).toS) hSf (fun i v hv => hv) (none_of _ (Nat.le_refl _)) (fun b hb => none_of b (by
            rw [List.mem_singleton.mp hb, hz]
            exact Nat.le_succ _)) add kp (items.size - 0) 0 _ (by omega) (Nat.zero_le _)
          ⟨⟨_, Heap.get?_push_size _ rfl, rfl, rfl⟩, (hl1.push _)⟩ kept0 (h0 _ (Heap.get?_push_of_some _ at0) kept0) ?hR
        case hR =>
          intro s' hm hS' hkp
          obtain ⟨h', g2, d', tk', os'⟩ := s'
          have eg : g2 = s.gens := hm.gens
          have ed : d' = s.drawn := hm.drawn
          have eo : os' = s.os := hm.os
          subst eg; subst ed; subst eo
          show wpAny _ _ _ _ _ _
          refine wpAny_pure ?_
          show wpAny _ _ (ret Value.none) _ _ _
          exact wpAny_pure ⟨rfl, h', tk', rfl, hS', hkp⟩
      · cases r₂ with
        | error e => exact hr₂
        | ok fl₂ =>
          cases fl₂ with
          | ret r =>
            obtain ⟨rfl, h', tk, rfl, hS', hk'⟩ := hr₂
            repeat (any_goals (first | assumption | wp_step))
            exact hQ _ _ hS' hk'
          | _ => exact hr₂.elim
    | _ => exact hr.elim
end
end LB
end
section
set_option autoImplicit false
set_option Elab.async false
set_option linter.all false
set_option maxRecDepth 100000
set_option maxHeartbeats 4000000
/-! set(xs) and sorted(set) for data: ints, one text, tuples of any depth. -/
namespace LB
open PySem PySem.Spec PySem.W PyProof.Rows L2 PySem.Froz

/-! ### keys of data -/
mutual
def nk : PyData → NestedKey
  | .int i => .num i
  | .str x => .text x
  | .tuple xs => .tup (nkAll xs)
  | _ => .none
def nkAll : List PyData → List NestedKey
  | [] => []
  | x :: xs => nk x :: nkAll xs
end
mutual
theorem nk_inj : ∀ x y : PyData, pl x = true → pl y = true → nk x = nk y → x = y
  | .int a, y, _, py, h => by
    cases y with
    | int b => simp only [nk] at h; injection h with h; rw [h]
    | str b => simp [nk] at h
    | tuple b => simp [nk] at h
    | _ => cases py
  | .str a, y, _, py, h => by
    cases y with
    | int b => simp [nk] at h
    | str b => simp only [nk] at h; injection h with h; rw [h]
    | tuple b => simp [nk] at h
    | _ => cases py
  | .tuple xs, y, px, py, h => by
    cases y with
    | int b => simp [nk] at h
    | str b => simp [nk] at h
    | tuple ys =>
      simp only [nk] at h
      injection h with h
      rw [nkAll_inj xs ys (by simpa [pl] using px) (by simpa [pl] using py) h]
    | _ => cases py
  | .none, _, p, _, _ => by cases p
  | .bool _, _, p, _, _ => by cases p
  | .list _, _, p, _, _ => by cases p
  | .dict _, _, p, _, _ => by cases p
theorem nkAll_inj : ∀ xs ys : List PyData, plAll xs = true → plAll ys = true → nkAll xs = nkAll ys → xs = ys
  | [], [], _, _, _ => rfl
  | [], _ :: _, _, _, h => by simp [nkAll] at h
  | _ :: _, [], _, _, h => by simp [nkAll] at h
  | x :: xs, y :: ys, px, py, h => by
    rw [plAll, Bool.and_eq_true] at px py
    simp only [nkAll] at h
    injection h with h1 h2
    rw [nk_inj x y px.1 py.1 h1, nkAll_inj xs ys px.2 py.2 h2]
end
mutual
theorem nk_depth : ∀ x : PyData, pl x = true → (nk x).depth = x.depth
  | .int _, _ => rfl
  | .str _, _ => rfl
  | .tuple xs, h => by simp only [nk, NestedKey.depth, PyData.depth]; rw [nkAll_depth xs (by simpa [pl] using h)]; try omega
  | .none, h => by cases h
  | .bool _, h => by cases h
  | .list _, h => by cases h
  | .dict _, h => by cases h
theorem nkAll_depth : ∀ xs : List PyData, plAll xs = true → NestedKey.depthAll (nkAll xs) = PyData.depthAll xs
  | [], _ => rfl
  | x :: xs, h => by
    rw [plAll, Bool.and_eq_true] at h
    simp only [nkAll, NestedKey.depthAll, PyData.depthAll]
    rw [nk_depth x h.1, nkAll_depth xs h.2]
end
mutual
theorem nk_is {h : Heap} : ∀ (d : PyData) (v : Value) (as : List Addr), pl d = true → Reads h v d as → NestedIs h (nk d) v
  | .int i, _, _, _, r => by cases r; exact .int _ _
  | .str x, _, _, _, r => by cases r; exact .text _ _
  | .tuple xs, _, _, p, r => by
    cases r with
    | tuple h1 h2 h3 h4 => exact .tup h1 h2 h3 (nkAll_is xs _ _ (by simpa [pl] using p) h4)
  | .none, _, _, p, _ => by cases p
  | .bool _, _, _, p, _ => by cases p
  | .list _, _, _, p, _ => by cases p
  | .dict _, _, _, p, _ => by cases p
theorem nkAll_is {h : Heap} : ∀ (ds : List PyData) (vs : List Value) (as : List Addr), plAll ds = true → ReadsAll h vs ds as → NestedAll h (nkAll ds) vs
  | [], _, _, _, r => by cases r; exact .nil
  | d :: ds, _, _, p, r => by
    rw [plAll, Bool.and_eq_true] at p
    cases r with
    | cons r1 r2 => exact .cons (nk_is d _ _ p.1 r1) (nkAll_is ds _ _ p.2 r2)
end

/-! ### what the walk knows of a set: its members, in some order -/
def SetX (w : World) (h : Heap) (a : Addr) (vs : List V) : Prop :=
  ∃ es ep t us, SetAt h a es ep t ∧ t.fits es.size = true ∧ es.size < scanBound ∧ Ris t.place.toList ∧ (w.params.followText "set-order" = true ∨ t.led = true) ∧ es.toList.map (·.2) = us ∧ Vals vs us
def SetXO (w : World) (a : Addr) (vs : List V) : HO := .ext fun h => SetX w h a vs
theorem setX_new {w : World} {P : Program} {H : Hp} {h : Heap} {a : Addr} {vs : List V} (R : SetX w h a vs) : ObjOk P w H h a (SetXO w a vs) := by
  have ⟨es, ep, t, us, ⟨o, ho, _⟩, _⟩ := R
  refine ⟨R, ⟨o, ho⟩, fun h1 h2 (p : SetX w h1 a vs) k => ?_⟩
  have ⟨es, ep, t, us, sa, q⟩ := p
  exact ⟨es, ep, t, us, sa.at k, q⟩
/-- members picked out of known ones -/
theorem picked {K : PySem.W.Frag} {H : Hp} {h : Heap} {ds : List PyData} : ∀ us : List Value, (∀ u ∈ us, ∃ x d, RelV x u ∧ Dp K H x d ∧ d ∈ ds ∧ ∃ as, Reads h u d as) →
    ∃ vs ds', Vals vs us ∧ DpAll K H vs ds' ∧ ds'.length = us.length ∧ (∀ d ∈ ds', d ∈ ds) ∧ ∀ u ∈ us, ∃ d ∈ ds', ∃ as, Reads h u d as
  | [], _ => ⟨[], [], .nil, .nil, rfl, fun d h => (by cases h), fun u h => (by cases h)⟩
  | u :: us, hu => by
    obtain ⟨x, d, rx, dx, md, rd⟩ := hu u List.mem_cons_self
    obtain ⟨vs, ds', a1, a2, a3, a4, a5⟩ := picked us fun u hu' => hu u (List.mem_cons_of_mem _ hu')
    refine ⟨x :: vs, d :: ds', .cons rx a1, .cons dx a2, by rw [List.length_cons, List.length_cons, a3], fun e he => ?_, fun e he => ?_⟩
    · rcases List.mem_cons.mp he with rfl | he
      · exact md
      · exact a4 e he
    · rcases List.mem_cons.mp he with rfl | he
      · exact ⟨d, List.mem_cons_self, rd⟩
      · obtain ⟨d', m', r'⟩ := a5 e he
        exact ⟨d', List.mem_cons_of_mem _ m', r'⟩
section
variable {X : Cx} {pins : List (Addr × Obj)} {σ : L2.St} {H : Hp} {s : Shared}
/-- the items of a list, one by one -/
theorem each_of (I : Inv X pins σ H s) : ∀ {xs : List V} {ds : List PyData} {us : List Value}, DpAll X.K H xs ds → Vals xs us → us.length = ds.length ∧ EachIs (fun v d => ∃ as, Reads s.heap v d as) us ds ∧
    ∀ (j : Nat) (u : Value) (d : PyData), us[j]? = some u → ds[j]? = some d → ∃ x, RelV x u ∧ Dp X.K H x d ∧ ∃ as, Reads s.heap u d as
  | _, _, _, .nil, .nil => ⟨rfl, .nil, fun j u d h => by simp at h⟩
  | _, _, _, .cons d1 t1, .cons r1 t2 => by
    obtain ⟨a, b, c⟩ := each_of I t1 t2
    obtain ⟨as, q⟩ := Dp.reads I _ _ _ d1 r1
    refine ⟨by rw [List.length_cons, List.length_cons, a], .cons ⟨as, q⟩ b, fun j u d h1 h2 => ?_⟩
    cases j with
    | zero =>
      simp only [List.getElem?_cons_zero, Option.some.injEq] at h1 h2
      subst h1 h2
      exact ⟨_, r1, d1, as, q⟩
    | succ j => exact c j u d h1 h2
end
/-- what set() does with the data ds -/
def SetsOk (ds : List PyData) : Prop := (∀ d ∈ ds, ∃ i, d = .int i) ∨ (∃ x, ds = [.str x]) ∨ ((∀ d ∈ ds, ∃ xs, d = .tuple xs) ∧ ∀ d ∈ ds, d.depth ≤ 8)
def rSetX (K : PySem.W.Frag) (w : World) : List V → Hp → VK → Prop := fun xs H Q => ∃ (l : Addr) (vs : List V) (ds : List PyData), xs = [V.ref l] ∧ SqL K H l vs ∧ DpAll K H vs ds ∧ (∀ d ∈ ds, pl d = true) ∧ SetsOk ds ∧ ds.length ≤ 200 ∧
  ∀ a vs' ds', H a = none → DpAll K H vs' ds' → (∀ d ∈ ds', d ∈ ds) → (∀ d ∈ ds, d ∈ ds') → ds'.length ≤ ds.length → Q (.ref a) (upd H a (SetXO w a vs'))
section
variable {P : Program} {w : World} {A : Around} {E : Value → Shared → Prop} {s : Shared}
theorem tks_of {us : List Value} {ds : List PyData} (hl : us.length = ds.length) (e : EachIs (fun v d => ∃ as, Reads s.heap v d as) us ds) (hp : ∀ d ∈ ds, pl d = true) (ht : ∀ d ∈ ds, ∃ xs, d = .tuple xs) (hd : ∀ d ∈ ds, d.depth ≤ 8) : Tks s.heap us (ds.map nk) := by
  refine ⟨by rw [List.length_map, hl], fun j v k h1 h2 => ?_⟩
  rw [List.getElem?_map] at h2
  obtain ⟨d, hd2, rfl⟩ := Option.map_eq_some_iff.mp h2
  have md := List.mem_of_getElem? hd2
  have hz : (v, d) ∈ us.zip ds := List.mem_of_getElem? (i := j) (by rw [List.getElem?_zip_eq_some]; exact ⟨h1, hd2⟩)
  obtain ⟨as, r⟩ := e.zip _ hz
  obtain ⟨xs, rfl⟩ := ht d md
  refine ⟨?_, nk_is _ _ _ (hp _ md) r, by rw [nk_depth _ (hp _ md)]; exact hd _ md⟩
  cases r with
  | tuple h1 h2 h3 h4 => exact ⟨_, rfl⟩
/-- tuples -/
theorem set_tups {l : Addr} {us : List Value} {ds : List PyData} {Q : Value → Shared → Prop} (hh : A.handled = none) (hl : s.heap.IsList l us.toArray) (T : Tks s.heap us (ds.map nk)) (few : us.length ≤ 200) (hu : A.units + 11 < cLine)
    (hQ : ∀ h' tk, Sk w us (ds.map nk) s.heap.objs.size us.length h' → (∀ b o, s.heap.get? b = some o → h'.get? b = some o) → Q (.ref s.heap.objs.size) { s with heap := h', toks := tk }) : wpAny (model P w) A (call (.type "set") [.ref l]) Q E s := by
  refine call_set_gen (R := fun i h => Sk w us (ds.map nk) s.heap.objs.size i h) hh hl ?_ ?_ ?_ ?_
  · intro i v A' E' s' Q' hv hA hR hk hq
    rw [List.getElem?_toArray] at hv
    have T' := T.at hk
    obtain ⟨k, ek, tk⟩ := T'.key hv
    have hi : i < us.length := (List.getElem?_eq_some_iff.mp hv).1
    unfold setAdd
    refine wpAny_holding (wpAny_bind (pyHash_key k v A' s' _ tk.2.1 (by have := tk.2.2; omega) ?_))
    exact add_key (s := { s' with toks := s'.toks + k.draws }) hR T' hv ek (by omega) (by omega) fun b h' sb hR' => hq b h' _ (Nat.le_add_right _ _) sb hR'
  · rintro i h h' ⟨o, es, ep, t, ho, r⟩ hS _
    exact ⟨o, es, ep, t, hS o ho, r⟩
  · intro h hS _
    refine ⟨_, #[], 0, _, hS, ⟨rfl, rfl, rfl⟩, rfl, ⟨List.Pairwise.nil, rfl, rfl, .inl rfl, fun x hx => (by cases hx), (by show 0 * 5 < 7 * 3; decide)⟩, fun e he => (by cases he), fun j k hj => absurd hj (Nat.not_lt_zero j), Nat.le_refl 0, ?_⟩
    show _ ∨ (!w.params.followText "set-order") = true
    cases w.params.followText "set-order"
    · exact .inr rfl
    · exact .inl rfl
  · intro h' tk hR hk
    rw [List.size_toArray] at hR
    exact hQ h' tk hR hk
/-- ints -/
theorem set_ints {l : Addr} {us : List Value} {ns : List Int} {Q : Value → Shared → Prop} (hh : A.handled = none) (hl : s.heap.IsList l us.toArray) (hi : IntsAre us ns) (few : us.length ≤ 200)
    (hQ : ∀ h' tk c, c ≤ ns.length → SetR w h' s.heap.objs.size (fun j => decide (j ∈ ns)) c → (∀ b o, s.heap.get? b = some o → h'.get? b = some o) → Q (.ref s.heap.objs.size) { s with heap := h', toks := tk }) : wpAny (model P w) A (call (.type "set") [.ref l]) Q E s := by
  have len : us.length = ns.length := IntsAre.length hi
  refine call_set_gen (R := fun i h => ∃ c, c ≤ i ∧ SetR w h s.heap.objs.size (fun j => decide (j ∈ ns.take i)) c) hh hl ?_ ?_ ?_ ?_
  · intro i v A' E' s' Q' hv hA ⟨c, hc, hR⟩ hk hq
    rw [List.getElem?_toArray] at hv
    have hin : i < ns.length := by rw [← len]; exact (List.getElem?_eq_some_iff.mp hv).1
    obtain ⟨t, e⟩ := PyProof.Rows.IntsAre.int_at hi i v hv
    rw [List.getD_eq_getElem?_getD, List.getElem?_eq_getElem hin] at e
    obtain ⟨z, hz⟩ : ∃ z, ns[i]? = some z := ⟨_, List.getElem?_eq_getElem hin⟩
    have e : v = .int z t := by
      rw [List.getElem?_eq_getElem hin] at hz
      rw [← Option.some.inj hz]
      exact e
    subst e
    unfold setAdd
    refine wpAny_holding (wpAny_bind ((intKind P w).pyHash (k := z) (intKind_is _ _ _ _) ?_))
    have big : us.length + 1 < scanBound := by unfold scanBound; omega
    refine setR_add_hashed (s := { s' with toks := s'.toks + 1 }) hR (by omega) fun h' sb hR2 => hq _ h' _ (Nat.le_succ _) sb ⟨_, ?_, hR2.congr fun j => ?_⟩
    · split <;> omega
    · rw [List.take_add_one, hz]
      simp [List.mem_append]
  · rintro i h h' ⟨c, hc, hR⟩ hS _
    exact ⟨c, hc, hR.at hS⟩
  · intro h hS _
    exact ⟨0, Nat.le_refl 0, setR_new_at hS⟩
  · rintro h' tk ⟨c, hc, hR⟩ hk
    rw [List.size_toArray] at hc
    have eN : ns.take us.toArray.size = ns := List.take_of_length_le (by rw [List.size_toArray, len]; exact Nat.le_refl _)
    rw [eN] at hR
    rw [len] at hc
    exact hQ h' tk c hc hR hk
end
end LB
end
section
set_option autoImplicit false
set_option Elab.async false
set_option linter.all false
set_option maxRecDepth 100000
set_option maxHeartbeats 4000000
/-! set(xs) and sorted(set) for data: ints, one text, tuples of any depth. -/
namespace LB
open PySem PySem.Spec PySem.W PyProof.Rows L2 PySem.Froz

section
variable {P : Program} {w : World} {A : Around} {E : Value → Shared → Prop} {s : Shared}
/-- the payload of a new set, and behind one text -/
def tx0 (w : World) : SD := (#[], 0, .fresh 0 0 (!w.params.followText "set-order"))
def tx1 (w : World) (x : Str) (t : Tok) : SD := addTx (hashStr w x) (.str x t) (tx0 w)
def TxR (w : World) (x : Str) (t : Tok) (a : Addr) (i : Nat) (h : Heap) : Prop := (i = 0 → h.get? a = some (sObj "set" (tx0 w))) ∧ (i ≠ 0 → h.get? a = some (sObj "set" (tx1 w x t)))
/-- one text -/
theorem set_text {l : Addr} {x : Str} {t : Tok} {Q : Value → Shared → Prop} (hh : A.handled = none) (hl : s.heap.IsList l [Value.str x t].toArray)
    (hQ : ∀ h' tk es ep tb t', SetAt h' s.heap.objs.size es ep tb → tb.fits es.size = true → es.size = 1 → Ris tb.place.toList → (w.params.followText "set-order" = true ∨ tb.led = true) → es.toList.map (·.2) = [Value.str x t'] →
      (∀ b o, s.heap.get? b = some o → h'.get? b = some o) → Q (.ref s.heap.objs.size) { s with heap := h', toks := tk }) : wpAny (model P w) A (call (.type "set") [.ref l]) Q E s := by
  refine call_set_gen (R := TxR w x t s.heap.objs.size) hh hl ?_ ?_ ?_ ?_
  · intro i v A' E' s' Q' hv hA hR hk hq
    rw [List.getElem?_toArray] at hv
    have hi : i < 1 := (List.getElem?_eq_some_iff.mp hv).1
    obtain rfl : i = 0 := by omega
    simp only [List.getElem?_cons_zero, Option.some.injEq] at hv
    subst hv
    have hR := hR.1 rfl
    unfold setAdd
    refine wpAny_holding (wpAny_bind ((strKind P w).pyHash (k := x) (is_str x t) ?_))
    have big : ([] : List Str).length + 1 < scanBound := Nat.lt_of_lt_of_le (show 1 < 4096 by decide) (Nat.le_refl _)
    have tx := TxOk.nil (P := P) (w := w) (t := .fresh 0 0 (!w.params.followText "set-order")) (ep := 0) (by rfl)
    refine add_x (P := P) (l := []) (s := { s' with toks := s'.toks + 1 }) hR tx (List.not_mem_nil) big ?_
    refine hq true _ _ (Nat.le_succ _) (Heap.SameBut.update ..) ?_
    exact ⟨fun z => absurd z (by decide), fun _ => get_upd _ hR rfl⟩
  · intro i h h' hR hS _
    exact ⟨fun z => hS _ (hR.1 z), fun z => hS _ (hR.2 z)⟩
  · intro h hS _
    exact ⟨fun _ => hS, fun z => absurd rfl z⟩
  · intro h' tk hR hk
    have hR : h'.get? s.heap.objs.size = some (sObj "set" (addTx (hashStr w x) (.str x t) (#[], 0, .fresh 0 0 (!w.params.followText "set-order")))) := hR.2 (by simp)
    have F := add_ok (P := P) (k := x) t (TxOk.nil (P := P) (w := w) (t := .fresh 0 0 (!w.params.followText "set-order")) (ep := 0) (by rfl))
    have ris0 : Ris (SetTable.fresh 0 0 (!w.params.followText "set-order")).place.toList := List.Pairwise.nil
    have r1 := layNew_ris (.fresh 0 0 (!w.params.followText "set-order")) #[] (hashStr w x) (.str x t) ris0
    have l1 := layNew_led (.fresh 0 0 (!w.params.followText "set-order")) #[] (hashStr w x) (.str x t)
    have more : Ris (addTx (hashStr w x) (.str x t) (#[], 0, .fresh 0 0 (!w.params.followText "set-order"))).2.2.place.toList ∧ (addTx (hashStr w x) (.str x t) (#[], 0, .fresh 0 0 (!w.params.followText "set-order"))).2.2.led = (SetTable.fresh 0 0 (!w.params.followText "set-order")).led := by
      unfold addTx tailTx
      dsimp only
      generalize layNew (.fresh 0 0 (!w.params.followText "set-order")) #[] (hashStr w x) (.str x t) = L at r1 l1 ⊢
      have r2 : Ris (if L.2.1.plain = true then { L.2.1 with plain := false } else L.2.1).place.toList := by split <;> exact r1
      have l2 : (if L.2.1.plain = true then { L.2.1 with plain := false } else L.2.1).led = (SetTable.fresh 0 0 (!w.params.followText "set-order")).led := by split <;> exact l1
      generalize (if L.2.1.plain = true then { L.2.1 with plain := false } else L.2.1) = t2 at r2 l2 ⊢
      split
      · exact ⟨relayAll_ris _ _ _, (relayAll_led _ _ _).trans l2⟩
      · exact ⟨r2, l2⟩
    generalize addTx (hashStr w x) (.str x t) (#[], 0, .fresh 0 0 (!w.params.followText "set-order")) = D at F hR more
    obtain ⟨es, ep, tb⟩ := D
    have sz : es.size = 1 := F.sz
    obtain ⟨e, ee⟩ : ∃ e, es.toList = [e] := by
      have q : es.toList.length = 1 := by rw [Array.length_toList]; exact sz
      exact List.length_eq_one_iff.mp q
    obtain ⟨e', he', is'⟩ := (F.mem x).mp List.mem_cons_self
    have he' : e' ∈ es.toList := he'
    rw [ee, List.mem_singleton] at he'
    subst he'
    obtain ⟨t', et⟩ : ∃ t', e'.2 = .str x t' := by
      have q : Value.isStrOf x e'.2 = true := is'
      generalize e'.2 = v at q
      cases v with
      | str y u =>
        have q : (y == x) = true := q
        exact ⟨u, by rw [beq_iff_eq.mp q]⟩
      | _ => cases q
    refine hQ h' tk es ep tb t' ⟨_, hR, rfl, rfl⟩ F.fit sz more.1 ?_ (by rw [ee, List.map_cons, List.map_nil, et]) hk
    rw [more.2]
    show _ ∨ (!w.params.followText "set-order") = true
    cases w.params.followText "set-order"
    · exact .inr rfl
    · exact .inl rfl
end
end LB
end
section
set_option autoImplicit false
set_option Elab.async false
set_option linter.all false
set_option maxRecDepth 100000
set_option maxHeartbeats 4000000
/-! The rules for set(xs) and sorted(set) of data. -/
namespace LB
open PySem PySem.Spec PySem.W PyProof.Rows L2 PySem.Froz

theorem sorted_by {β : Type} {R : Value → β → Prop} {h : Heap} {kz : List PyData} {ks us : List Value} {bs : List β} (kf : β → PyData) (e : EachIs R us bs) (hk : EachIs (fun v b => (dataKind h kz).keyOf v = some (keyToks (kf b))) ks bs) :
    ∃ bs', EachIs R (sortVals (dataKind h kz) false ks us) bs' ∧ bs'.Perm bs ∧ bs'.Pairwise (fun a b => dataLt (kf b) (kf a) = false) := by
  refine ⟨_, sortVals_each (κ := dataKind h kz) (rev := false) (fun b => keyToks (kf b)) e hk, List.mergeSort_perm _ _, ?_⟩
  refine (sort_pairwise (sortLe_total (listOrd itemOrd) false fun b => keyToks (kf b)) bs).imp fun {a b} q => ?_
  have q : (!dataLt (kf b) (kf a)) = true := q
  simpa using q
abbrev VD := V × PyData
def RVD (K : PySem.W.Frag) (H : Hp) (u : Value) (b : VD) : Prop := RelV b.1 u ∧ Dp K H b.1 b.2
theorem vd_of {K : PySem.W.Frag} {H : Hp} : ∀ {vs : List V} {ds : List PyData} {us : List Value}, DpAll K H vs ds → Vals vs us → ∃ bs : List VD, EachIs (RVD K H) us bs ∧ bs.map (·.2) = ds ∧ bs.map (·.1) = vs
  | _, _, _, .nil, .nil => ⟨[], .nil, rfl, rfl⟩
  | _, _, _, .cons (v := v) (d := d) d1 t1, .cons r1 t2 => by
    obtain ⟨bs, e, q1, q2⟩ := vd_of t1 t2
    exact ⟨(v, d) :: bs, .cons ⟨r1, d1⟩ e, by rw [List.map_cons, q1], by rw [List.map_cons, q2]⟩
theorem vd_back {K : PySem.W.Frag} {H : Hp} : ∀ {us : List Value} {bs : List VD}, EachIs (RVD K H) us bs → Vals (bs.map (·.1)) us ∧ DpAll K H (bs.map (·.1)) (bs.map (·.2))
  | _, _, .nil => ⟨.nil, .nil⟩
  | _, _, .cons h t => ⟨.cons h.1 (vd_back t).1, .cons h.2 (vd_back t).2⟩
theorem each_mapR {α β γ : Type} {R : α → γ → Prop} (f : β → γ) : ∀ {us : List α} {bs : List β}, EachIs R us (bs.map f) → EachIs (fun u b => R u (f b)) us bs
  | _, [], e => by
    have e : EachIs R _ [] := e
    cases e
    exact .nil
  | _, b :: bs, e => by
    have e : EachIs R _ (f b :: bs.map f) := e
    cases e with
    | cons h t => exact .cons h (each_mapR f t)
theorem each_keyOf {h : Heap} {kz : List PyData} (hp : ∀ d ∈ kz, pl d = true) : ∀ {us : List Value} {ds : List PyData}, (∀ d ∈ ds, d ∈ kz) → EachIs (fun v d => ∃ as, Reads h v d as) us ds → EachIs (fun v d => (dataKind h kz).keyOf v = some (keyToks d)) us ds
  | _, _, _, .nil => .nil
  | _, _, sub, .cons ⟨as, r⟩ t => .cons (dk_some hp (sub _ List.mem_cons_self) r) (each_keyOf hp (fun d hd => sub d (List.mem_cons_of_mem _ hd)) t)
/-- where the data may be ordered by < -/
structure Ord (ds : List PyData) : Prop where
  pl : ∀ d ∈ ds, pl d = true
  wal : ∀ d ∈ ds, ∀ d' ∈ ds, wal d d' = true
  deep : ∀ d ∈ ds, d.depth ≤ 40
theorem Reads.kept {h h' : Heap} {v : Value} {d : PyData} {as : List Addr} (k : ∀ b o, h.get? b = some o → h'.get? b = some o) (r : Reads h v d as) : Reads h' v d as := PyProof.Rows.Reads.keeps k r
section
variable {X : Cx}
theorem cr_setX (hc : X.calm = true) (hu : X.A.units + 64 < cLine) : CallR X (.type "set") (rSetX X.K X.w) := by
  intro pins s σ H xs us Q I r h
  obtain ⟨l, vs, ds, rfl, hs, hd, hp, ok, few, q⟩ := h
  rw [Vals.ref1 r]
  obtain ⟨its, rv, pli, hz⟩ := I.list hs
  have hn : H s.heap.objs.size = none := I.hok.fresh (Nat.le_refl _)
  obtain ⟨len, each, one⟩ := each_of I hd rv
  have hl : s.heap.IsList l its.toArray := pli.isList
  have done : ∀ (h' : Heap) (tk : Nat) (es : Array (Int × Value)) (ep : Nat) (t : SetTable), SetAt h' s.heap.objs.size es ep t → t.fits es.size = true → es.size < scanBound → Ris t.place.toList → (X.w.params.followText "set-order" = true ∨ t.led = true) →
      (∀ b o, s.heap.get? b = some o → h'.get? b = some o) → es.size ≤ ds.length → (∀ u ∈ es.toList.map (·.2), ∃ x d, RelV x u ∧ Dp X.K H x d ∧ d ∈ ds ∧ ∃ as, Reads s.heap u d as) →
      (∀ d ∈ ds, ∃ u ∈ es.toList.map (·.2), ∃ as, Reads s.heap u d as) → EP X pins σ Q (.ref s.heap.objs.size) { s with heap := h', toks := tk } := by
    intro h' tk es ep t sa hf hb hr hl k hle sub all
    obtain ⟨vs', ds', a1, a2, a3, a4, a5⟩ := picked _ sub
    refine ⟨.ref s.heap.objs.size, upd H s.heap.objs.size (SetXO X.w s.heap.objs.size vs'), I.laid (t' := tk) k (Nat.le_refl _) (setX_new ⟨es, ep, t, _, sa, hf, hb, hr, hl, rfl, a1⟩), rfl, q _ vs' ds' hn a2 a4 (fun d md => ?_) ?_⟩
    · obtain ⟨u, mu, as, r⟩ := all d md
      obtain ⟨d', m', as', r'⟩ := a5 u mu
      rw [reads_one d d' u as as' (hp d md) (hp d' (a4 d' m')) r r']
      exact m'
    · rw [a3, List.length_map, Array.length_toList]
      exact hle
  rcases ok with ok | ⟨x, rfl⟩ | ⟨ht, hdp⟩
  · -- ints
    obtain ⟨ns, hi, en⟩ : ∃ ns : List Int, IntsAre its ns ∧ ds = ns.map .int := by
      clear done few one q hp hz hl hs
      have go : ∀ {us : List Value} {ds : List PyData}, EachIs (fun v d => ∃ as, Reads s.heap v d as) us ds → (∀ d ∈ ds, ∃ i, d = .int i) → ∃ ns : List Int, IntsAre us ns ∧ ds = ns.map .int := by
        intro us ds e
        induction e with
        | nil => intro _; exact ⟨[], .nil, rfl⟩
        | @cons u d us ds h t ih =>
          intro ok
          obtain ⟨i, rfl⟩ := ok d List.mem_cons_self
          obtain ⟨ns, a, b⟩ := ih fun d hd => ok d (List.mem_cons_of_mem _ hd)
          obtain ⟨as, r⟩ := h
          cases r
          exact ⟨i :: ns, .cons i _ a, by rw [List.map_cons, b]⟩
      exact go each ok
    refine set_ints (P := X.prog) (w := X.w) (I.ok.hd hc) hl hi (by omega) fun h' tk c hcn R k => ?_
    obtain ⟨o, es, ep, t, ho, hex, hdt, g, nd, hm, hb, hf, hsz, hr, hld⟩ := R
    refine done h' tk es ep t ⟨o, ho, hex.1, hdt⟩ hf hb hr hld k (by rw [hsz, en, List.length_map]; exact hcn) (fun u hu => ?_) fun d md => ?_
    · obtain ⟨e, he, rfl⟩ := List.mem_map.mp hu
      obtain ⟨i, t', e1, _⟩ := g e he
      have mi : i ∈ es.toList.map keyOf := List.mem_map.mpr ⟨e, he, by unfold keyOf; rw [e1]⟩
      have mi2 := (hm i).mpr mi
      exact ⟨.int i, .int i, ⟨t', e1⟩, .int i, by rw [en]; exact List.mem_map.mpr ⟨i, of_decide_eq_true mi2, rfl⟩, [], by rw [e1]; exact Reads.int i t'⟩
    · rw [en] at md
      obtain ⟨i, mi, rfl⟩ := List.mem_map.mp md
      obtain ⟨e, he, ek⟩ := List.mem_map.mp ((hm i).mp (decide_eq_true mi))
      obtain ⟨j, t', e1, _⟩ := g e he
      refine ⟨e.2, List.mem_map.mpr ⟨e, he, rfl⟩, [], ?_⟩
      unfold keyOf at ek
      rw [e1] at ek ⊢
      have ek : j = i := ek
      rw [ek]
      exact Reads.int i t'
  · -- one text
    obtain ⟨t, rfl⟩ : ∃ t, its = [Value.str x t] := by
      cases each with
      | cons h t' =>
        cases t'
        obtain ⟨as, r⟩ := h
        cases r
        exact ⟨_, rfl⟩
    refine set_text (P := X.prog) (w := X.w) (I.ok.hd hc) hl fun h' tk es ep tb t' sa hf sz hr hld ee k => ?_
    refine done h' tk es ep tb sa hf (by rw [sz]; unfold scanBound; omega) hr hld k (by rw [sz]; exact Nat.le_refl 1) (fun u hu => ?_) fun d md => ?_
    · rw [ee, List.mem_singleton] at hu
      subst hu
      exact ⟨.str x, .str x, ⟨t', rfl⟩, .str x, List.mem_cons_self, [], Reads.str x t'⟩
    · rw [List.mem_singleton] at md
      subst md
      exact ⟨_, by rw [ee]; exact List.mem_cons_self, [], Reads.str x t'⟩
  · -- tuples
    have T := tks_of (s := s) len each hp ht hdp
    refine set_tups (P := X.prog) (w := X.w) (I.ok.hd hc) hl T (by omega) (by omega) fun h' tk R k => ?_
    obtain ⟨o, es, ep, t, ho, hex, hdt, tb, ent, all, hn2, ld⟩ := R
    have small : es.size < scanBound := by unfold scanBound; omega
    refine done h' tk es ep t ⟨o, ho, hex.1, hdt⟩ tb.fits small tb.up ld k (by omega) (fun u hu => ?_) fun d md => ?_
    · obtain ⟨e, he, rfl⟩ := List.mem_map.mp hu
      obtain ⟨j, hj, ej⟩ := ent e he
      have ej2 : ds[j]? = some (ds[j]'(by omega)) := List.getElem?_eq_getElem _
      obtain ⟨x, rx, dx, rd⟩ := one j _ _ ej ej2
      exact ⟨x, _, rx, dx, List.getElem_mem _, rd⟩
    · obtain ⟨j, hj, rfl⟩ := List.getElem_of_mem md
      obtain ⟨e, he, j', e1, e2⟩ := all j (nk ds[j]) (by omega) (by rw [List.getElem?_map, List.getElem?_eq_getElem hj]; rfl)
      refine ⟨e.2, List.mem_map.mpr ⟨e, he, rfl⟩, ?_⟩
      rw [List.getElem?_map] at e2
      obtain ⟨d', hd', ed⟩ := Option.map_eq_some_iff.mp e2
      have same : d' = ds[j] := nk_inj _ _ (hp _ (List.mem_of_getElem? hd')) (hp _ md) ed
      rw [← same]
      obtain ⟨x, rx, dx, rd⟩ := one j' _ _ e1 hd'
      exact rd
def rSortedX (K : PySem.W.Frag) (w : World) : List V → Hp → VK → Prop := fun xs H Q => ∃ (a : Addr) (vs : List V) (ds : List PyData), xs = [V.ref a] ∧ H a = some (SetXO w a vs) ∧ DpAll K H vs ds ∧ Ord ds ∧ ds.length ≤ 1000 ∧
  ∀ p vs' ds', H p = none → DpAll K H vs' ds' → ds'.Perm ds → ds'.Pairwise (fun x y => dataLt y x = false) → Q (.ref p) (upd H p (.lst vs'))
theorem cr_sortedX (hc : X.calm = true) (hu : X.A.units + 64 < cLine) : CallR X (.builtin "sorted") (rSortedX X.K X.w) := by
  intro pins s σ H xs us Q I r h
  obtain ⟨a, vs, ds, rfl, ha, hd, ok, few, q⟩ := h
  rw [Vals.ref1 r]
  have ⟨es, ep, t, us0, sa, hf, hb, hr, hld, eu, rv⟩ : SetX X.w s.heap a vs := (I.hok a _ ha).1
  have hh : X.A.handled = none := I.ok.hd hc
  refine Calls.call_function_entry kind_sorted plain_sorted entry_sorted (args_sorted1 _) ?_
  unfold Builtin.«sorted»
  refine wpAny_bind (m := checkCount "sorted" 1 1 _) (wpAny_pure ?_)
  refine wpAny_bind (collect_set (A := X.A.in1) hh sa hf hb hr hld fun s1 ws k1 hz g1 o1 pm => ?_)
  rw [eu] at pm
  -- the members in that order
  obtain ⟨bs0, e0, b02, b01⟩ := vd_of hd rv
  obtain ⟨bs, e1, pb⟩ : ∃ bs : List VD, EachIs (RVD X.K H) ws bs ∧ bs.Perm bs0 := by
    clear q
    have go : ∀ {ws us : List Value}, ws.Perm us → ∀ bs0 : List VD, EachIs (RVD X.K H) us bs0 → ∃ bs : List VD, EachIs (RVD X.K H) ws bs ∧ bs.Perm bs0 := by
      intro ws us p
      induction p with
      | nil => intro bs0 e; exact ⟨bs0, e, List.Perm.refl _⟩
      | cons x p ih =>
        intro bs0 e
        cases e with
        | cons h t =>
          obtain ⟨bs, e1, p1⟩ := ih _ t
          exact ⟨_, .cons h e1, p1.cons _⟩
      | swap x y l =>
        intro bs0 e
        cases e with
        | cons h t =>
          cases t with
          | cons h2 t => exact ⟨_, .cons h2 (.cons h t), List.Perm.swap _ _ _⟩
      | trans p1 p2 ih1 ih2 =>
        intro bs0 e
        obtain ⟨bs1, e1, q1⟩ := ih2 bs0 e
        obtain ⟨bs2, e2, q2⟩ := ih1 bs1 e1
        exact ⟨bs2, e2, q2.trans q1⟩
    exact go pm bs0 e0
  have pd : (bs.map (·.2)).Perm ds := by
    rw [← b02]
    exact pb.map _
  have wl : ws.length = ds.length := by
    have q1 := e1.length
    have q2 := pd.length_eq
    rw [List.length_map] at q2
    omega
  have big : ws.length ≤ sizeLine := by rw [sizeLine_eq]; omega
  refine wpAny_bind (wpAny_newList ?_ big)
  have hoL : (s1.heap.push (seqObj "list" ws.toArray 0)).get? s1.heap.objs.size = some (seqObj "list" ws.toArray 0) := Heap.get?_push_size _ rfl
  have kA : ∀ b o, s.heap.get? b = some o → (sortingHeap (s1.heap.push (seqObj "list" ws.toArray 0)) s1.heap.objs.size ws).get? b = some o := fun b o e => by
    have e2 := k1 b o e
    exact sortingHeap_old (Nat.ne_of_lt (Heap.lt_size e2)) (Heap.get?_push_of_some _ e2)
  have eR : EachIs (fun v d => ∃ as, Reads (sortingHeap (s1.heap.push (seqObj "list" ws.toArray 0)) s1.heap.objs.size ws) v d as) ws (bs.map (·.2)) := by
    have go : ∀ {ws : List Value} {bs : List VD}, EachIs (RVD X.K H) ws bs → EachIs (fun v d => ∃ as, Reads s.heap v d as) ws (bs.map (·.2)) := by
      intro ws bs e
      induction e with
      | nil => exact .nil
      | cons h t ih => exact .cons (Dp.reads I _ _ _ h.2 h.1) ih
    exact (go e1).mono fun v d ⟨as, r⟩ => ⟨as, Reads.kept kA r⟩
  have hp' : ∀ d ∈ bs.map (·.2), pl d = true := fun d hd => ok.pl d (pd.mem_iff.mp hd)
  have S : SortsAt X.prog X.w X.A.in1.in1 { s1 with heap := sortingHeap (s1.heap.push (seqObj "list" ws.toArray 0)) s1.heap.objs.size ws } (dataKind (sortingHeap (s1.heap.push (seqObj "list" ws.toArray 0)) s1.heap.objs.size ws) (bs.map (·.2))) ws :=
    sorts_wal (s := { s1 with heap := sortingHeap (s1.heap.push (seqObj "list" ws.toArray 0)) s1.heap.objs.size ws }) eR hp' (fun d hd d' hd' => ok.wal d (pd.mem_iff.mp hd) d' (pd.mem_iff.mp hd')) fun d hd => by
      have := ok.deep d (pd.mem_iff.mp hd)
      simp only [Around.in1_units]
      omega
  obtain ⟨bs', e3, p3, pw⟩ := sorted_by (h := sortingHeap (s1.heap.push (seqObj "list" ws.toArray 0)) s1.heap.objs.size ws) (kz := bs.map (·.2)) (fun b : VD => b.2) e1 (each_mapR (fun b : VD => b.2) (each_keyOf hp' (fun d hd => hd) eR))
  refine wpAny_bind (wpAny_holding (wpAny_call_entry slot_list_sort ⟨_, hoL, rfl⟩ entry_list_sort (list_sort_vals (s := { s1 with heap := s1.heap.push (seqObj "list" ws.toArray 0) }) hoL S big ?_) (args_list_sort _)))
  refine ⟨.none, rfl, ?_⟩
  generalize hout : sortVals (dataKind (sortingHeap (s1.heap.push (seqObj "list" ws.toArray 0)) s1.heap.objs.size ws) (bs.map (·.2))) false ws ws = out at e3 ⊢
  obtain ⟨c, hcL⟩ := sortedHeap_at (vs := ws) (out := out.toArray) hoL
  obtain ⟨rv', dv'⟩ := vd_back e3
  have hn : H s1.heap.objs.size = none := I.hok.fresh hz
  have hlen : (bs'.map (·.1)).length ≤ sizeLine := by
    have q1 := p3.length_eq
    have q2 := e1.length
    rw [List.length_map, q1, ← q2]
    exact big
  have k2 : ∀ b o, s.heap.get? b = some o → (sortedHeap (s1.heap.push (seqObj "list" ws.toArray 0)) s1.heap.objs.size ws out.toArray).get? b = some o := fun b o e => by
    have e2 := k1 b o e
    have lt := Heap.lt_size e2
    rw [sortedHeap_old (Nat.ne_of_lt lt) (by rw [size_push']; exact Nat.lt_succ_of_lt lt)]
    exact Heap.get?_push_of_some _ e2
  have J : Inv X pins σ (upd H s1.heap.objs.size (.lst (bs'.map (·.1)))) { s with heap := sortedHeap (s1.heap.push (seqObj "list" ws.toArray 0)) s1.heap.objs.size ws out.toArray, gens := s1.gens, drawn := s1.drawn, toks := s1.toks } :=
    I.call (ch := []) (Un.laid k2 hz hn) (I.hok.laid k2 hz ⟨hlen, out, c, rv', hcL⟩) (by rw [g1]; exact I.bare) (fun _ z => nomatch z)
  refine wpAny_pure ⟨_, rfl, ?_⟩
  have es1 : { s1 with heap := sortedHeap (s1.heap.push (seqObj "list" ws.toArray 0)) s1.heap.objs.size ws out.toArray } = { s with heap := sortedHeap (s1.heap.push (seqObj "list" ws.toArray 0)) s1.heap.objs.size ws out.toArray, gens := s1.gens, drawn := s1.drawn, toks := s1.toks } := by
    cases s1
    cases s
    cases o1
    rfl
  rw [es1]
  exact ⟨.ref s1.heap.objs.size, _, J, rfl, q _ (bs'.map (·.1)) (bs'.map (·.2)) hn dv' ((p3.map _).trans pd) (List.pairwise_map.mpr pw)⟩
end
end LB
end
section
set_option autoImplicit false
set_option Elab.async false
set_option linter.all false
set_option maxRecDepth 100000
set_option maxHeartbeats 4000000
/-! Heaps that grow (tables may be written), a lambda of one parameter and one captured name. -/
namespace LB
open PySem PySem.Spec PySem.W PyProof.Rows L2 LamX

/-! ### growth -/
/-- what may be laid -/
def Nd : HO → Prop
  | .tup (.str _ :: _) => False
  | .frz o (.tup _) => o.dict = none
  | _ => True
/-- the tables are in order; tuples that begin with a text have no dict -/
def Tabs (T : List (Addr × Str)) (H : Hp) : Prop := LamX.Tabs T H ∧ ∀ a o, H a = some o → Nd o
/-- from H to H': what is tracked stays, but for the tables of code objects; the tables T are in order -/
def Gw (T : List (Addr × Str)) (H H' : Hp) : Prop := ExtN H H' ∧ Tabs T H'
variable {T : List (Addr × Str)} {K : PySem.W.Frag} {H H' H1 H2 : Hp}
theorem Gw.refl (t : Tabs T H) : Gw T H H := ⟨ExtN.refl H, t⟩
theorem Gw.trans (a : Gw T H H1) (b : Gw T H1 H2) : Gw T H H2 := ⟨a.1.trans b.1, b.2⟩
theorem Gw.same (t : Tabs T H) (e : ∀ b o, H b = some o → H' b = some o) (n : ∀ b o, H' b = some o → Nd o) : Gw T H H' := ⟨ExtN.of e, t.1.ext e, n⟩
theorem nd_upd {a : Addr} {o : HO} (t : Tabs T H) (nd : Nd o) : ∀ b u, upd H a o b = some u → Nd u := fun b u e => by
  by_cases c : b = a
  · subst c
    rw [upd_same] at e
    rw [← Option.some.inj e]
    exact nd
  · rw [upd_ne c] at e
    exact t.2 b u e
theorem same_upd {a : Addr} {o : HO} (n : H a = none) : ∀ b u, H b = some u → upd H a o b = some u := fun b u e => by
  rw [upd_ne (ne_of_none e n)]
  exact e
theorem Gw.upd {a : Addr} {o : HO} (g : Gw T H H1) (n : H1 a = none) (nd : Nd o := by exact True.intro) : Gw T H (upd H1 a o) := g.trans (Gw.same g.2 (same_upd n) (nd_upd g.2 nd))
theorem Gw.tabs (g : Gw T H H') : Tabs T H' := g.2
theorem Gw.lst {a : Addr} {xs : List V} (g : Gw T H H') (h : H a = some (.lst xs)) : H' a = some (.lst xs) := g.1 _ _ h fun _ z => nomatch z
theorem SqT.gw {a : Addr} {xs : List V} (h : SqT K H a xs) (g : Gw T H H') : SqT K H' a xs := by
  rcases h with (h | ⟨o, h⟩) | h
  · exact .inl (.inl (g.1 _ _ h fun _ z => nomatch z))
  · exact .inl (.inr ⟨o, g.1 _ _ h fun _ z => nomatch z⟩)
  · exact .inr h
theorem SqL.gw {a : Addr} {xs : List V} (h : SqL K H a xs) (g : Gw T H H') : SqL K H' a xs := by
  rcases h with (h | ⟨o, h⟩) | h
  · exact .inl (.inl (g.1 _ _ h fun _ z => nomatch z))
  · exact .inl (.inr ⟨o, g.1 _ _ h fun _ z => nomatch z⟩)
  · exact .inr h
mutual
theorem Dp.gw (g : Gw T H H') : ∀ (d : PyData) (v : V), Dp K H v d → Dp K H' v d
  | .none, _, h => by cases h; exact .non
  | .bool b, _, h => by cases h; exact .bl b
  | .int i, _, h => by cases h; exact .int i
  | .str x, _, h => by cases h; exact .str x
  | .list ds, _, h => by
    cases h with
    | lst hs ha => exact .lst (SqL.gw hs g) (DpAll.gw g ds _ ha)
  | .tuple ds, _, h => by
    cases h with
    | tup hs ha => exact .tup (SqT.gw hs g) (DpAll.gw g ds _ ha)
  | .dict _, _, h => by cases h
theorem DpAll.gw (g : Gw T H H') : ∀ (ds : List PyData) (vs : List V), DpAll K H vs ds → DpAll K H' vs ds
  | [], _, h => by cases h; exact .nil
  | d :: ds, _, h => by
    cases h with
    | cons h1 h2 => exact .cons (Dp.gw g d _ h1) (DpAll.gw g ds _ h2)
end

/-! ### the lambda's names -/
structure LamP (sc scope : Scope) (p c : Str) : Prop where
  kind : scope.kind = .function
  co : scope.isCoroutine = false
  gen : scope.isGenerator = false
  own : ∀ y ∈ scope.names, y.2 ≠ .cell
  par : scope.names.lookup p = some .local
  cap : scope.names.lookup c = some .free
  free : ∀ y ∈ scope.names, y.2 = .free → sc.names.lookup y.1 = some .cell ∨ sc.names.lookup y.1 = some .free
def lamPB (sc scope : Scope) (p c : Str) : Bool :=
  decide (scope.kind = .function) && !scope.isCoroutine && !scope.isGenerator && decide (scope.names.lookup p = some .local) && decide (scope.names.lookup c = some .free) &&
    scope.names.all fun y => !decide (y.2 = .cell) && (!decide (y.2 = .free) || decide (sc.names.lookup y.1 = some .cell) || decide (sc.names.lookup y.1 = some .free))
theorem lamP_by {sc scope : Scope} {p c : Str} (h : lamPB sc scope p c = true) : LamP sc scope p c := by
  unfold lamPB at h
  simp only [Bool.and_eq_true, Bool.or_eq_true, Bool.not_eq_true', decide_eq_true_eq, decide_eq_false_iff_not, List.all_eq_true] at h
  obtain ⟨⟨⟨⟨⟨h1, h2⟩, h3⟩, h5⟩, h6⟩, h4⟩ := h
  refine ⟨h1, h2, h3, fun y hy => (h4 y hy).1, h5, h6, fun y hy e => ?_⟩
  rcases (h4 y hy).2 with (z | z) | z
  · exact absurd e z
  · exact .inl z
  · exact .inr z
/-- the context of the lambda's body; its names: the parameter, the captured one -/
def lamC (X : Cx) (A : Around) (s : Shared) (H : Hp) (scope : Scope) (f c' : Addr) (N : List Str) : Cx where
  prog := X.prog
  w := X.w
  K := X.K
  mg := X.mg
  base := X.base
  A := A.deeper (lamEnv X scope s.heap.objs.size f c')
  N := N
  s_0 := s
  H_0 := H
  env := lamEnv X scope s.heap.objs.size f c'
  outer := X.stack
  stack := lamEnv X scope s.heap.objs.size f c' :: X.stack
  ex := []
  fn := fun _ => false
  calm := true
  pn := []
  xe := fun e s' => wpAny (model X.prog X.w) (A.deeper (lamEnv X scope s.heap.objs.size f c')) (leaving (lamEnv X scope s.heap.objs.size f c') e) (fun _ s'' => C8.CX0 X.stack H s C8.E0 e s'') (fun e' s'' => C8.CX0 X.stack H s C8.E0 e' s'') s'
section
variable {X : Cx} {pins : List (Addr × Obj)} {σ : L2.St} {s : Shared}
theorem LamP.has {scope : Scope} {p c : Str} (L : LamP X.env.scope scope p c) (ok : X.Ok) : ∀ y ∈ scope.names, y.2 = .free → ∃ c, X.env.cells.lookup y.1 = some c := fun y hy e =>
  (L.free y hy e).elim (fun k => ok.has _ (.inl k)) fun k => ok.has _ (.inr k)
theorem lam_in {A : Around} {scope : Scope} {p c : Str} {f c' : Addr} {h₁ : Heap} {tk j : Nat} {v wv : V} {u : Value} (I : Inv X pins σ H s) (L : LamP X.env.scope scope p c) (hfr : A.frames = some X.stack) (hd : A.handled = none)
    (hj : X.N[j]? = some c) (hσ : σ[j]? = some (some wv)) (rv : RelV v u) (hns : h₁.Ns s.heap.objs.size fun y => [(p, u)].reverse.lookup y) (kp : ∀ b o, s.heap.get? b = some o → h₁.get? b = some o) :
    Inv (lamC X A s H scope f c' [p, c]) [] [some v, some wv] H { s with heap := h₁, toks := tk } := by
  have known := L.has I.ok
  have back : ∀ {y a}, (cloFrom X.env.cells scope.names []).lookup y = some a → X.env.cells.lookup y = some a := fun {y a} e => by
    rcases cloFrom_mem (PySem.mem_of_lookup e) with hm | ⟨h1, h2⟩
    · cases hm
    · obtain ⟨a1, ha⟩ := known _ h1 rfl
      have ha : X.env.cells.lookup y = some a1 := ha
      rw [h2, ha]
      rfl
  have look : ∀ {y}, scope.names.lookup y = some .free → ∃ a, (cloFrom X.env.cells scope.names []).lookup y = some a := fun {y} hl =>
    mem_lookup (cloFrom_has (cells := X.env.cells) (acc := []) (PySem.mem_of_lookup hl : (y, NameKind.free) ∈ scope.names))
  have cellK : ∀ {a : Addr} {v : Option Value}, s.heap.IsCell a v → h₁.IsCell a v := fun {a v} ⟨o, ho, hd⟩ => ⟨o, kp _ _ ho, hd⟩
  have e0 := I.env0
  have noA : ∀ b : Addr, b ∉ (lamC X A s H scope f c' [p, c]).ex := fun b z => nomatch (show b ∈ ([] : List Addr) from z)
  have okk : (lamC X A s H scope f c' [p, c]).Ok := {
    mod := e0.mod
    kind := L.kind
    glob := rfl
    blt := rfl
    above := Nat.le_refl _
    inj := fun y z a e1 e2 => I.ok.inj y z a (back e1) (back e2)
    has := fun y hy => by
      have hy : scope.names.lookup y = some .cell ∨ scope.names.lookup y = some .free := hy
      rcases hy with hy | hy
      · exact absurd rfl (L.own _ (PySem.mem_of_lookup hy))
      · exact look hy
    cab := fun y a z _ => nomatch (show false = true from z)
    hd := fun _ => hd
    frames := Around.frames_deeper hfr
    stk := .inr ⟨rfl, rfl⟩
    exf := fun b z => absurd z (noA b)
    bs := e0.bs
    bsz := e0.bsz
    noex := fun b _ _ => noA b
    exfs := fun b z => absurd z (noA b)
    funs := e0.funs
    frf := e0.frf }
  refine ⟨okk, rfl, e0.bare, Un.kept kp, ⟨_, hns, fun i y v' e1 e2 e3 => ?_⟩, fun y a e => ?_, I.hok.fresh (Nat.le_refl _), fun y a e => I.freeC y a (back e), fun q hq => absurd (show q ∈ ([] : List (Addr × Obj)) ++ [] from hq) (by simp), I.hok.kept kp, rfl⟩
  · match i, e1, e2 with
    | 0, e1, e2 =>
      have e1 : p = y := Option.some.inj e1
      have e2 : v = v' := Option.some.inj (Option.some.inj e2)
      subst e1 e2
      exact ⟨u, rv, .inl ⟨L.par, by simp⟩⟩
    | 1, e1, e2 =>
      have e1 : c = y := Option.some.inj e1
      have e2 : wv = v' := Option.some.inj (Option.some.inj e2)
      subst e1 e2
      have cap := L.cap
      have hf := L.free _ (PySem.mem_of_lookup cap) rfl
      obtain ⟨m, hn, hl⟩ := I.loc
      obtain ⟨w', r, q⟩ := hl j c wv hj hσ (hf.elim (fun k => .inr (.inl k)) fun k => .inr (.inr k))
      obtain ⟨a2, h2⟩ := look cap
      refine ⟨w', r, .inr ⟨.inr cap, a2, h2, ?_⟩⟩
      rcases q with ⟨k', _⟩ | ⟨_, a3, e', z⟩
      · have k' : X.env.scope.names.lookup c = some .local := k'
        rcases hf with k2 | k2 <;> rw [show X.env.scope.names.lookup c = _ from k2] at k' <;> cases k'
      · rw [back h2] at e'
        cases e'
        exact cellK z
    | i + 2, e1, e2 => simp at e2
  · obtain ⟨w', z⟩ := I.cell y a (back e)
    exact ⟨w', cellK z⟩
/-- the call f(u) of the lambda's object, from a built-in that runs in X -/
theorem lam_call {A : Around} {params : Arguments} {body : Expr} {scope : Scope} {p c : Str} {f c' : Addr} {pm ctv : Value} {v wv : V} {u : Value} {j : Nat} {t : TE} {Q : VK} {E : Value → Shared → Prop} (I : Inv X pins σ H s) (L : LamP X.env.scope scope p c)
    (hfr : A.frames = some X.stack) (hd : A.handled = none) (hdep : A.depth < recursionLimit)
    (hf : s.heap.get? f = some (PySem.W.kla_obj "<lambda>" (X.env.qual ++ "<lambda>") params body scope (cloFrom X.env.cells scope.names []) pm c' ctv)) (hc' : H c' = some (CodeO c' (X.env.qual ++ "<lambda>")))
    (hbind : bindArgs (PySem.W.kla_fn "<lambda>" (X.env.qual ++ "<lambda>") params body scope (cloFrom X.env.cells scope.names []) pm (.ref c') ctv) ⟨[u], []⟩ = pure [(p, u)])
    (hj : X.N[j]? = some c) (hσ : σ[j]? = some (some wv)) (rv : RelV v u) (hbody : PE (lamC X A s H scope f c' [p, c]) body t) (h : t [some v, some wv] H Q) :
    wpAny (model X.prog X.w) A (call (.ref f) [u]) (EP X pins σ Q) E s := by
  obtain ⟨⟨oc, vs, tq, hoc, hdc, hvc⟩, _, _⟩ := I.hok c' _ hc'
  have rc : codeAny (model X.prog X.w) A (.call (.ref f) ⟨[u], []⟩) (CR C8.CX0 X.stack X.prog X.w H s Q C8.E0) s := by
    refine PySem.W.kla_callFunE hdep hf rfl L.co L.gen rfl ⟨c', oc, vs, tq, rfl, hoc, hdc, hvc⟩ ?_
    rw [hbind]
    refine wpAny_pure (wpAny_newFunctionEnv (fun y hy => L.own y hy) (fun y hy => ?_) (fun h₁ hns hsb => ⟨I.nolimit.fresh _ hsb, ?_⟩) L.kind)
    · rw [List.mem_singleton.mp hy]
      exact L.par
    show codeAny _ _ (.expr body (lamEnv X scope s.heap.objs.size f c')) _ _
    have kp : ∀ b o, s.heap.get? b = some o → h₁.get? b = some o := fun b o e => hsb.extBut b o (Nat.ne_of_lt (Heap.lt_size e)) (Heap.get?_push_of_some _ e)
    have J := lam_in (A := A) (f := f) (c' := c') (tk := s.toks + [(p, u)].length) I L hfr hd hj hσ rv hns kp
    refine PySem.W.kla_codeExpr (wpAny_mono (hbody.run [] _ _ H Q J h) (fun v s' hq => ?_) fun e s' hq => hq)
    obtain ⟨w', H', J', rv', q⟩ := hq
    exact ⟨w', H', J'.os, J'.bare, J'.base, J'.hok, rv', q⟩
  refine wpAny_call (codeAny_mono rc fun r s' hq => ?_)
  cases r with
  | error e => exact (show False from hq).elim
  | ok fl =>
    cases fl with
    | ret u => exact I.after hq
    | next => exact False.elim hq
    | brk => exact False.elim hq
    | cont => exact False.elim hq
end
end LB
end
section
set_option autoImplicit false
set_option Elab.async false
set_option linter.all false
set_option maxRecDepth 100000
set_option maxHeartbeats 4000000
/-! list.sort(key=f) within the walk's invariant: f's calls may track more. -/
namespace LB
open PySem PySem.Spec PySem.W PyProof.Rows L2 LamX

section
variable {X : Cx} {pins : List (Addr × Obj)} {σ : L2.St} {s : Shared} {H : Hp} {T : List (Addr × Str)}
/-- an address that is new in X's state -/
structure NewAt (X : Cx) (pins : List (Addr × Obj)) (H : Hp) (a : Addr) : Prop where
  none : H a = none
  loc : a ≠ X.env.locals
  fs : a ∉ X.fs
  ab : X.s_0.heap.objs.size ≤ a
  cel : ∀ x c, X.env.cells.lookup x = some c → c ≠ a
  pin : ∀ p ∈ X.pn ++ pins, p.1 ≠ a
theorem NewAt.of (I : Inv X pins σ H s) {a : Addr} (hn : H a = .none) (h : s.heap.get? a = .none) (hl : X.env.locals < a) : NewAt X pins H a where
  none := hn
  loc := Nat.ne_of_gt hl
  fs := fun hb => by
    obtain ⟨_, o, ho, _⟩ := I.funs.mem hb
    rw [h] at ho
    cases ho
  ab := Nat.le_trans I.ok.above (Nat.le_of_lt hl)
  cel := fun x c e z => by
    obtain ⟨v, o, ho, _⟩ := I.cell x c e
    rw [z, h] at ho
    cases ho
  pin := fun p hp z => by
    have e := (I.pin p hp).1
    rw [z, h] at e
    cases e
/-- the heap without one address -/
noncomputable def but (h : Heap) (a : Addr) : Heap := hidT h fun b => if b = a then some (.lst []) else none
theorem but_get {h : Heap} {a b : Addr} {o : Obj} (hb : b ≠ a) (e : h.get? b = some o) : (but h a).get? b = some o := hidT_get e (if_neg hb)
theorem of_but {h : Heap} {a b : Addr} {o : Obj} (e : (but h a).get? b = some o) : h.get? b = some o := (of_hidT e).1
theorem but_none {h : Heap} {a : Addr} : (but h a).get? a = none := by
  cases e : (but h a).get? a with
  | none => rfl
  | some o =>
    have q := (of_hidT e).2
    rw [if_pos rfl] at q
    cases q
/-- what a call of the key function does -/
def KeyTurn (X : Cx) (A : Around) (T : List (Addr × Str)) (f : Value) (σ : L2.St) (H : Hp) (pinF : Addr × Obj) (bs : List VD) (kf : PyData → PyData) : Prop :=
  ∀ (b : VD) (u : Value) (pins : List (Addr × Obj)) (s : Shared) (H1 : Hp), b ∈ bs → RelV b.1 u → pinF ∈ pins → Inv X pins σ H1 s → Gw T H H1 →
    wpAny (model X.prog X.w) A (call f [u]) (EP X pins σ fun v H2 => Gw T H1 H2 ∧ Dp X.K H2 v (kf b.2)) (fun _ _ => False) s
theorem each_get {α β : Type} {R : α → β → Prop} : ∀ {as : List α} {bs : List β}, EachIs R as bs → ∀ (i : Nat) (a : α), as[i]? = some a → ∃ b, bs[i]? = some b ∧ R a b
  | _, _, .nil, i, a, h => by simp at h
  | _, _, .cons h t, 0, a, e => ⟨_, rfl, by rw [← Option.some.inj e]; exact h⟩
  | _, _, .cons h t, i + 1, a, e => each_get t i a e
theorem dpAll_len {K : PySem.W.Frag} {H : Hp} : ∀ {vs : List V} {ds : List PyData}, DpAll K H vs ds → vs.length = ds.length
  | _, _, .nil => rfl
  | _, _, .cons _ t => by rw [List.length_cons, List.length_cons, dpAll_len t]
theorem dpAll_snoc {K : PySem.W.Frag} {H : Hp} : ∀ {vs : List V} {ds : List PyData} {v : V} {d : PyData}, DpAll K H vs ds → Dp K H v d → DpAll K H (vs ++ [v]) (ds ++ [d])
  | _, _, _, _, .nil, h => .cons h .nil
  | _, _, _, _, .cons h1 t, h => .cons h1 (dpAll_snoc t h)
theorem vals_snoc : ∀ {vs : List V} {us : List Value} {v : V} {u : Value}, Vals vs us → RelV v u → Vals (vs ++ [v]) (us ++ [u])
  | _, _, _, _, .nil, h => .cons h .nil
  | _, _, _, _, .cons h1 t, h => .cons h1 (vals_snoc t h)
theorem tree_keyed {A : Around} {f fa : Addr} {fo : Obj} {us : List Value} {bs : List VD} {kf : PyData → PyData} {D n : Nat} {hC : Heap} {P : PySem.Fin → Shared → Prop} {E : Value → Shared → Prop} (I : Inv X pins σ H s) (tT : Tabs T H)
    (hpF : (fa, fo) ∈ pins) (kC : ∀ b o, s.heap.get? b = some o → hC.get? b = some o) (hDn : H D = none) (hD0 : s.heap.get? D = none) (hDL : X.env.locals < D) (hD : hC.get? D = some (seqObj "list" us.toArray n)) (e : EachIs (RVD X.K H) us bs) (small : us.length ≤ 1000)
    (ok : Ord (bs.map fun b => kf b.2)) (hu : A.units + 50 < cLine) (turn : KeyTurn X A T (.ref f) σ H (fa, fo) bs kf)
    (hP : ∀ (s' : Shared) (H' : Hp) (bs' : List VD), Inv X pins σ (upd H' D (.lst (bs'.map (·.1)))) s' → Gw T H H' → H' D = none → bs'.Perm bs → bs'.Pairwise (fun x y => dataLt (kf y.2) (kf x.2) = false) → P (.done (.ret .none)) s') :
    wpAny (model X.prog X.w) A (ksk_tree D (.ref f) false) P E { s with heap := hC } := by
  have big : us.length ≤ sizeLine := by rw [sizeLine_eq]; omega
  have hlen : bs.length = us.length := e.length.symm
  have hDl : D < hC.objs.size := Heap.lt_size hD
  obtain ⟨e1, ho1⟩ : ∃ e1, (hC.update D (Obj.mapSeq fun _ => (#[] : Array Value))).get? D = some (seqObj "list" #[] e1) := ⟨_, get?_update_seq hD fun _ => #[]⟩
  have hkS : ((hC.update D (Obj.mapSeq fun _ => (#[] : Array Value))).push (seqObj "tuple" us.toArray 0)).objs.size = hC.objs.size + 1 := by rw [size_push', Heap.size_update]
  unfold ksk_tree
  refine wpAny_bind (listItems_at hD rfl ?_)
  refine wpAny_bind (listUpdate_at hD rfl ?_ (by rw [List.size_toArray]; exact big) (Nat.zero_le _))
  refine wpAny_bind (seqEpoch_at ho1 rfl ?_)
  refine wpAny_bind (wpAny_newTuple ?_ (by show us.length ≤ _; exact big))
  refine wpAny_bind (wpAny_newList ?_ (Nat.zero_le _))
  refine wpAny_holding ?_
  -- the heap of the loop
  have k0 : ∀ b o, s.heap.get? b = some o → (sortingHeap hC D us).get? b = some o := fun b o q => sortingHeap_old (fun z => by rw [z, hD0] at q; cases q) (kC b o q)
  have atD : (sortingHeap hC D us).get? D = some (seqObj "list" #[] e1) := Heap.get?_push_of_some _ (Heap.get?_push_of_some _ ho1)
  obtain ⟨kS, hkSe⟩ : ∃ kS, kS = ((hC.update D (Obj.mapSeq fun _ => (#[] : Array Value))).push (seqObj "tuple" us.toArray 0)).objs.size := ⟨_, rfl⟩
  have atK : (sortingHeap hC D us).get? kS = some (seqObj "list" #[] 0) := by
    rw [hkSe]
    exact Heap.get?_push_size _ rfl
  have neKD : kS ≠ D := by rw [hkSe, hkS]; exact Nat.ne_of_gt (Nat.lt_succ_of_lt hDl)
  have hK1 : hC.objs.size < kS := by rw [hkSe, hkS]; exact Nat.lt_succ_self _
  have hK0 : s.heap.get? kS = none := by
    cases q : s.heap.get? kS with
    | none => rfl
    | some o => exact absurd (Nat.lt_trans (Heap.lt_size (kC _ o q)) hK1) (Nat.lt_irrefl _)
  rw [← hkSe]
  have NK := NewAt.of I ((I.hok.kept kC).fresh (Nat.le_of_lt hK1)) hK0 (Nat.lt_trans hDL (Nat.lt_trans hDl hK1))
  have ND := NewAt.of I hDn hD0 hDL
  have I0 : Inv X pins σ H { s with heap := sortingHeap hC D us } := by
    have q := I.kept (t' := s.toks) k0
    exact q
  have pins0 : ∀ {H1 : Hp} {s1 : Shared} {kA : Array Value} {ek : Nat}, Inv X pins σ H1 s1 → H1 D = none → H1 kS = none → s1.heap.get? D = some (seqObj "list" #[] e1) → s1.heap.get? kS = some (seqObj "list" kA ek) →
      Inv X (pins ++ [(D, seqObj "list" #[] e1), (kS, seqObj "list" kA ek)]) σ H1 s1 := fun {H1 s1 kA ek} J n1 n2 g1 g2 => J.pins_of fun p hp => by
    rcases List.mem_append.mp hp with hp | hp
    · exact J.pin p (List.mem_append_right _ hp)
    · rcases List.mem_cons.mp hp with rfl | hp
      · exact ⟨g1, n1, ND.loc, ND.fs, fun v z => nomatch z⟩
      · rw [List.mem_singleton.mp hp]
        exact ⟨g2, n2, NK.loc, NK.fs, fun v z => nomatch z⟩
  show wpAny (model X.prog X.w) A (ksk_rest D (.ref f) false us.toArray e1 (.ref kS)) P E { s with heap := sortingHeap hC D us }
  unfold ksk_rest
  refine wpAny_bind (wpAny_rule ?_)
  first
    | rw [List.forIn_toArray]
    | (rw [← Array.forIn_toList]; simp only [List.toList_toArray])
    | rw [← Array.forIn_toList]
  refine wpAny_bind (ksk_fold (fun i s' => ∃ H1 kA ek kvs, Inv X (pins ++ [(D, seqObj "list" #[] e1), (kS, seqObj "list" kA ek)]) σ H1 s' ∧ Gw T H H1 ∧ Vals kvs kA.toList ∧ DpAll X.K H1 kvs ((bs.map fun b => kf b.2).take i)) us 0 _
    ⟨H, #[], 0, [], pins0 I0 ND.none NK.none atD atK, Gw.refl tT, .nil, by rw [List.take_zero]; exact .nil⟩ ?step ?done)
  case step =>
    rintro j u s1 hj ⟨H1, kA, ek, kvs, I1, g1, rv, dv⟩
    rw [Nat.zero_add] at dv ⊢
    obtain ⟨b, hb, rb, db⟩ := each_get e j u hj
    have hjl : j < us.length := (List.getElem?_eq_some_iff.mp hj).1
    have hkA : kA.size ≤ us.length := by
      have q := dpAll_len dv
      have q2 : kvs.length = kA.size := rv.length
      rw [List.length_take, List.length_map] at q
      omega
    refine wpAny_bind (wpAny_attempt (wpAny_mono (turn b u _ s1 H1 (List.mem_of_getElem? hb) rb (List.mem_append_left _ hpF) I1 g1) (fun v s2 h2 => ?_) fun _ _ hF => hF.elim))
    obtain ⟨kv, H2, I2, rk, g2, dk⟩ := h2
    dsimp only
    obtain ⟨pD, nD, _⟩ := I2.pin (D, seqObj "list" #[] e1) (List.mem_append_right _ (List.mem_append_right _ List.mem_cons_self))
    obtain ⟨pK, nK, _⟩ := I2.pin (kS, seqObj "list" kA ek) (List.mem_append_right _ (List.mem_append_right _ (List.mem_cons_of_mem _ List.mem_cons_self)))
    have I3 : Inv X pins σ H2 s2 := I2.unpinned
    refine wpAny_bind (listUpdate_at pK rfl ?_ (by have : kA.size ≤ sizeLine := Nat.le_trans hkA big; exact this) (by rw [Array.size_push]; exact Nat.succ_le_succ (Nat.le_trans hkA big)))
    obtain ⟨c2, hc2⟩ : ∃ c2, (s2.heap.update kS (Obj.mapSeq (·.push v))).get? kS = some (seqObj "list" (kA.push v) c2) := ⟨_, get?_update_seq pK (·.push v)⟩
    have sb := Heap.SameBut.update s2.heap kS (Obj.mapSeq (·.push v))
    have I4 : Inv X pins σ H2 { s2 with heap := s2.heap.update kS (Obj.mapSeq (·.push v)) } := by
      have q := I3.turned (t' := s2.toks) (it := kS) (fun b o hb e => (sb.2 b hb).trans e) nK NK.loc (.inr NK.ab) NK.cel NK.pin
      exact q
    refine wpAny_pure ⟨rfl, H2, kA.push v, c2, kvs ++ [kv], pins0 I4 nD nK ((sb.2 D neKD.symm).trans pD) hc2, g1.trans g2, ?_, ?_⟩
    · rw [Array.toList_push]
      exact vals_snoc rv rk
    · rw [List.take_add_one, List.getElem?_map, hb]
      exact dpAll_snoc (DpAll.gw g2 _ _ dv) dk
  case done =>
    rintro s1 ⟨H1, kA, ek, kvs, I1, g1, rv, dv⟩
    rw [Nat.zero_add, List.take_of_length_le (by rw [List.length_map, hlen]; exact Nat.le_refl _)] at dv
    obtain ⟨pD, nD, _⟩ := I1.pin (D, seqObj "list" #[] e1) (List.mem_append_right _ (List.mem_append_right _ List.mem_cons_self))
    obtain ⟨pK, nK, _⟩ := I1.pin (kS, seqObj "list" kA ek) (List.mem_append_right _ (List.mem_append_right _ (List.mem_cons_of_mem _ List.mem_cons_self)))
    have I2 : Inv X pins σ H1 s1 := I1.unpinned
    refine wpAny_bind (listItems_at pK rfl ?_)
    have hsz : kA.size = us.length := by
      have q := dpAll_len dv
      have q2 : kvs.length = kA.size := rv.length
      rw [List.length_map] at q
      omega
    obtain ⟨_, eK, _⟩ := each_of I2 dv rv
    have S : SortsAt X.prog X.w A s1 (dataKind s1.heap (bs.map fun b => kf b.2)) kA.toList := sorts_wal eK ok.pl ok.wal fun d hd => by
      have := ok.deep d hd
      omega
    refine keyH_end (h₁ := but s1.heap kS) (fun b o hb q => of_but q) but_none pK pD neKD S hsz big fun h' tk c kp hD' => ?_
    have e2 : EachIs (RVD X.K H1) us bs := e.mono fun u b q => ⟨q.1, Dp.gw g1 _ _ q.2⟩
    obtain ⟨bs', e3, p3, pw⟩ := sorted_by (h := s1.heap) (kz := bs.map fun b => kf b.2) (fun b : VD => kf b.2) e2 (each_mapR (fun b : VD => kf b.2) (each_keyOf ok.pl (fun d hd => hd) eK))
    generalize sortVals (dataKind s1.heap (bs.map fun b => kf b.2)) false kA.toList us = out at e3 hD'
    obtain ⟨rv', dv'⟩ := vd_back e3
    have kp' : ∀ b o, b ≠ D → b ≠ kS → s1.heap.get? b = some o → h'.get? b = some o := fun b o h1 h2 q => kp b o h1 (but_get h2 q)
    have there' : ∀ b o, s1.heap.get? b = some o → b ∉ [D, kS] → h'.get? b = some o := fun b o q hb => kp' b o (fun z => hb (by simp [z])) (fun z => hb (by simp [z])) q
    have sm : ∀ b u, H1 b = some u → upd H1 D (.lst (bs'.map (·.1))) b = some u := same_upd nD
    have un : Un (frs X.stack) [D, kS] H1 (upd H1 D (.lst (bs'.map (·.1)))) s1.heap h' := {
      keep := fun b o q _ _ hx => there' b o q hx
      slot := fun b o q _ _ hx => ⟨o.slots, there' b o q hx⟩
      free := fun b o q hn hx => by rw [upd_ne (fun z => hx (by simp [z]))]; exact hn
      there := fun b o q hx => ⟨o, there' b o q hx⟩
      tups := fun b xs q => sm _ _ q
      frzs := fun b o xs q => sm _ _ q
      tbls := fun b ps q => ⟨#[], by rw [sm _ _ q]; simp⟩ }
    have hok : HOk X.prog X.w (upd H1 D (.lst (bs'.map (·.1)))) h' := fun b u q => by
      by_cases hb : b = D
      · subst hb
        rw [upd_same] at q
        cases q
        refine ⟨?_, out, c, rv', hD'⟩
        have q1 := p3.length_eq
        rw [List.length_map, q1, hlen]
        exact big
      · rw [upd_ne hb] at q
        refine (I2.hok b u q).stay (fun c v hc r => kp' c v ?_ ?_ r) (fun c r => sm _ _ r) fun c xs r => sm _ _ r
        · rcases hc with z | z
          · rw [z]; exact hb
          · exact fun w => by rw [w, nD] at z; cases z
        · rcases hc with z | z
          · exact fun w => by rw [← z, w, nK] at q; cases q
          · exact fun w => by rw [w, nK] at z; cases z
    have J := I2.call (t' := tk) (d' := s1.drawn) (g' := s1.gens) un hok I2.bare fun b hb => by
      rcases List.mem_cons.mp hb with rfl | hb
      · exact ⟨.inr ND.ab, ND.loc, ND.cel, ND.pin⟩
      · rw [List.mem_singleton.mp hb]
        exact ⟨.inr NK.ab, NK.loc, NK.cel, NK.pin⟩
    exact hP _ H1 bs' J g1 nD p3 pw
end
end LB
end
section
set_option autoImplicit false
set_option Elab.async false
set_option linter.all false
set_option maxRecDepth 100000
set_option maxHeartbeats 4000000
/-! sorted(xs, key=lambda p: body), xs a list or a tuple. -/
namespace LB
open PySem PySem.Spec PySem.W PyProof.Rows L2 LamX

section
variable {X : Cx} {pins : List (Addr × Obj)} {σ : L2.St} {s : Shared} {H : Hp} {T : List (Addr × Str)}
theorem fs_sub (ok : X.Ok) : ∀ b ∈ X.fs, b ∈ frs X.stack := fun b hb => by
  rcases ok.stk with e | ⟨e, hf⟩
  · rw [e]; exact hb
  · rw [e]
    unfold frs
    rw [List.filterMap_cons, hf]
    exact List.mem_cons_of_mem _ hb
theorem seq_at (I : Inv X pins σ H s) {a : Addr} {xs : List V} (h : SqL X.K H a xs ∨ SqT X.K H a xs) : ∃ (us : List Value) (ty : String) (o : Obj) (n : Nat), (ty = "list" ∨ ty = "tuple") ∧ s.heap.get? a = some o ∧ o.cls = .type ty ∧ o.data = .seq us.toArray n ∧ Vals xs us := by
  rcases h with h | h
  · obtain ⟨its, rv, ⟨o, n, ho, hc, _, hd⟩, _⟩ := I.list h
    exact ⟨its, "list", o, n, .inl rfl, ho, hc, hd, rv⟩
  · obtain ⟨its, rv, ⟨o, ho, hc, n, hd⟩, _⟩ := I.tuple h
    exact ⟨its, "tuple", o, n, .inr rfl, ho, hc, hd, rv⟩
theorem sorted_key {a f : Addr} {fo : Obj} {us : List Value} {bs : List VD} {kf : PyData → PyData} {ty : String} {o : Obj} {n : Nat} {Q : VK} {E : Value → Shared → Prop} (I : Inv X pins σ H s) (tT : Tabs T H) (hpF : (f, fo) ∈ pins)
    (hT : ty = "list" ∨ ty = "tuple") (ho : s.heap.get? a = some o) (hc : o.cls = .type ty) (hd : o.data = .seq us.toArray n) (e : EachIs (RVD X.K H) us bs) (small : us.length ≤ 1000) (ok : Ord (bs.map fun b => kf b.2)) (hu : X.A.units + 64 < cLine)
    (turn : KeyTurn X X.A.in1.in1 T (.ref f) σ H (f, fo) bs kf)
    (hQ : ∀ (H' : Hp) (p : Addr) (bs' : List VD), Gw T H H' → H' p = none → bs'.Perm bs → bs'.Pairwise (fun x y => dataLt (kf y.2) (kf x.2) = false) → Q (.ref p) (upd H' p (.lst (bs'.map (·.1))))) :
    wpAny (model X.prog X.w) X.A (call (.builtin "sorted") [.ref a] [(Str.ofString "key", .ref f)]) (EP X pins σ Q) E s := by
  have big : us.length ≤ sizeLine := by rw [sizeLine_eq]; omega
  refine call_function_entry_kw kind_sorted plain_sorted entry_sorted (ksk_s1 _ _) ?_
  unfold Builtin.«sorted»
  refine wpAny_bind (m := checkCount "sorted" 1 1 _) (wpAny_pure ?_)
  refine wpAny_bind (wpAny_collect_seq a hT ho hc hd (fun h' k => ?_) (by rw [List.size_toArray]; exact big))
  rw [List.toList_toArray]
  refine wpAny_bind (wpAny_newList ?_ big)
  have hl : X.env.locals < h'.objs.size := by
    obtain ⟨m, ⟨o2, _, _, ho2, _⟩, _⟩ := I.loc
    exact Heap.lt_size (k _ o2 ho2)
  have hno : s.heap.get? h'.objs.size = none := by
    cases q : s.heap.get? h'.objs.size with
    | none => rfl
    | some o2 => exact absurd (Heap.lt_size (k _ o2 q)) (Nat.lt_irrefl _)
  have hoL : (h'.push (seqObj "list" us.toArray 0)).get? h'.objs.size = some (seqObj "list" us.toArray 0) := Heap.get?_push_size _ rfl
  refine wpAny_bind (wpAny_holding (wpAny_call_entry_kw slot_list_sort ⟨_, hoL, rfl⟩ entry_list_sort ?body (ksk_l1 _ _)))
  case body =>
    show wpAny (model X.prog X.w) X.A.in1.in1 (Builtin.«list.sort» ⟨[.ref h'.objs.size], [(Str.ofString "key", .ref f)]⟩) _ _ _
    rw [ksk_t1]
    refine tree_keyed (s := s) (hC := h'.push (seqObj "list" us.toArray 0)) I tT hpF (fun b o e => Heap.get?_push_of_some _ (k b o e)) ((I.hok.kept k).fresh (Nat.le_refl _)) hno hl hoL e small ok (by simp only [Around.in1_units]; omega) turn fun s' H' bs' J g nD pm pw => ?_
    exact ⟨_, rfl, wpAny_pure ⟨_, rfl, .ref h'.objs.size, _, J, rfl, hQ H' _ bs' g nD pm pw⟩⟩
end
end LB
end
section
set_option autoImplicit false
set_option Elab.async false
set_option linter.all false
set_option maxRecDepth 100000
set_option maxHeartbeats 4000000
/-! The rule for the expression sorted(xs, key=lambda p: body). -/
namespace LB
open PySem PySem.Spec PySem.W PyProof.Rows L2 LamX

/-- what is asked; body: the reading of the lambda's body, with the parameter and the captured name -/
def tSortL (T : List (Addr × Str)) (K : PySem.W.Frag) (j : Nat) (te tb : TE) : TE := fun σ H Q => te σ H fun x H1 => ∃ (a : Addr) (xs : List V) (ds : List PyData) (kf : PyData → PyData) (wv : V), x = .ref a ∧ (SqL K H1 a xs ∨ SqT K H1 a xs) ∧ DpAll K H1 xs ds ∧ ds.length ≤ 1000 ∧ Ord (ds.map kf) ∧ Tabs T H1 ∧
  σ[j]? = some (some wv) ∧ (∀ (v : V) (d : PyData) (H2 : Hp) (Q2 : VK), Gw T H1 H2 → d ∈ ds → Dp K H2 v d → (∀ kv H3, Gw T H2 H3 → Dp K H3 kv (kf d) → Q2 kv H3) → tb [some v, some wv] H2 Q2) ∧
  ∀ (p : Addr) (vs' : List V) (ds' : List PyData) (H2 : Hp), Gw T H1 H2 → H2 p = none → DpAll K H2 vs' ds' → ds'.Perm ds → ds'.Pairwise (fun x y => dataLt (kf y) (kf x) = false) → Q (.ref p) (upd H2 p (.lst vs'))
section
variable {X : Cx} {T : List (Addr × Str)}
theorem vd_all {K : PySem.W.Frag} {H : Hp} {bs : List VD} (h : ∀ b ∈ bs, Dp K H b.1 b.2) : DpAll K H (bs.map (·.1)) (bs.map (·.2)) := by
  induction bs with
  | nil => exact .nil
  | cons b bs ih => exact .cons (h b List.mem_cons_self) (ih fun b hb => h b (List.mem_cons_of_mem _ hb))
theorem dp_mem {K : PySem.W.Frag} {H : Hp} : ∀ {bs : List VD}, DpAll K H (bs.map (·.1)) (bs.map (·.2)) → ∀ b ∈ bs, Dp K H b.1 b.2
  | [], _, b, hb => by cases hb
  | c :: bs, h, b, hb => by
    cases h with
    | cons h1 h2 =>
      rcases List.mem_cons.mp hb with rfl | hb
      · exact h1
      · exact dp_mem h2 b hb
/-- the lambda is made; what its making lays is a table or a code object -/
theorem lam_laid {T : List (Addr × Str)} {X : Cx} {pins : List (Addr × Obj)} {σ : L2.St} {s : Shared} {H : Hp} {cA pA : Addr} {ar : Arguments} {bd : Expr} {ls : Scope} {at_ : Pos} {E Q : Value → Shared → Prop} (I : Inv X pins σ H s) (tb : TabB X.base X.mg cA pA)
    (hcode : X.env.code = .ref cA) (inT : (pA, X.env.qual ++ "<lambda>") ∈ T) (one : ∀ p ∈ T, p.1 = pA → p.2 = X.env.qual ++ "<lambda>") (t : Tabs T H) (nodef : defaultsOf ar X.env = ([], [])) (caps : ∀ y ∈ ls.names, y.2 = .free → ∃ c, X.env.cells.lookup y.1 = some c)
    (go : ∀ (f k : Addr) (u1 u2 : Value) (H1 : Hp) (s' : Shared), Inv X pins σ H1 s' → Gw T H H1 →
      s'.heap.get? f = some (PySem.W.kla_obj "<lambda>" (X.env.qual ++ "<lambda>") ar bd ls (cloFrom X.env.cells ls.names []) u1 k u2) → H1 f = none → f ∉ frs X.stack → H1 k = some (CodeO k (X.env.qual ++ "<lambda>")) → Q (.ref f) s') :
    wpAny (model X.prog X.w) X.A (eval (.Lambda ar bd ls at_) X.env) Q E s := by
  obtain ⟨row, hRow, good, known⟩ := t.1 _ inT
  refine PySem.W.kla_eval nodef ?_
  have bAt : s.heap.BuiltinsAt X.mg pA := tb.bm.keeps I.bk
  have rowAt : s.heap.get? pA = some { cls := .none, data := .fields row } := I.hok pA _ hRow
  have far : ∀ f, s.heap.objs.size ≤ f → f ∉ frs X.stack := fun f hf z => by
    rcases List.mem_cons.mp (I.stkSub _ z) with e | e
    · exact absurd (e ▸ I.lt) (Nat.not_lt.mpr hf)
    · exact I.nofs hf e
  rcases hc : codeAmong at_ row.toList with _ | cv
  · refine PySem.W.kla_makeFunction (mg := X.mg) (c := cA) (P := pA) (ps := row) (closure_ok caps) I.ok.glob (I.mod.glob.keeps I.bk) hcode (tb.code.keeps I.bk) rowAt good hc tb.gP bAt fun k u2 hp' tk hx hge hlt hrec htb => ?_
    obtain ⟨k2, oc, vs, tt, ek, hoc, hd, hv⟩ := hrec
    cases ek
    have far2 : s.heap.objs.size ≤ hp'.objs.size := Nat.le_trans hge (Nat.le_of_lt hlt)
    have nk : H k = none := I.hok.fresh hge
    have J := inv_table (t' := tk) (more := #[rawInt at_.line, rawInt at_.col, .ref k]) (h' := hp'.push (PySem.W.kla_obj "<lambda>" (X.env.qual ++ "<lambda>") ar bd ls (cloFrom X.env.cells ls.names []) ((X.mg "__name__").getD .none) k u2)) I hRow
      (fun b o ne e => Heap.get?_push_of_some _ (hx b o ne e)) (Heap.get?_push_of_some _ htb) hge ⟨oc, vs, tt, Heap.get?_push_of_some _ hoc, hd, hv⟩
    have grow : ExtN H (upd (upd H pA (.tbl (row ++ #[rawInt at_.line, rawInt at_.col, .ref k]))) k (CodeO k (X.env.qual ++ "<lambda>"))) := fun b o e n => by
      have n1 : b ≠ pA := fun z => by
        rw [z, hRow] at e
        exact n row (Option.some.inj e).symm
      rw [upd_ne (ne_of_none e nk), upd_ne n1, e]
    have eL : (row ++ #[rawInt at_.line, rawInt at_.col, .ref k]).toList = row.toList ++ [rawInt at_.line, rawInt at_.col, .ref k] := by simp
    have tabs : LamX.Tabs T (upd (upd H pA (.tbl (row ++ #[rawInt at_.line, rawInt at_.col, .ref k]))) k (CodeO k (X.env.qual ++ "<lambda>"))) := fun p hp => by
      by_cases hb : p.1 = pA
      · rw [one p hp hb, hb]
        refine ⟨_, (upd_ne (ne_of_none hRow nk)).trans upd_same, by rw [eL]; exact PySem.TriplesOk_snoc _ _ _ _ good, fun p' c2 h2 => ?_⟩
        rw [eL] at h2
        rcases among_app _ good h2 with z | z
        · obtain ⟨c0, e1, e2⟩ := known p' c2 z
          exact ⟨c0, e1, grow _ _ e2 codeO_ne⟩
        · exact ⟨k, z, upd_same⟩
      · obtain ⟨r2, a1, a2, a3⟩ := t.1 p hp
        refine ⟨r2, ?_, a2, fun p' c2 h2 => ?_⟩
        · rw [upd_ne (ne_of_none a1 nk), upd_ne hb, a1]
        · obtain ⟨c0, e1, e2⟩ := a3 p' c2 h2
          exact ⟨c0, e1, grow _ _ e2 codeO_ne⟩
    have t1 : ∀ b o, upd H pA (.tbl (row ++ #[rawInt at_.line, rawInt at_.col, .ref k])) b = some o → Nd o := nd_upd t True.intro
    have t2 : ∀ b o, upd (upd H pA (.tbl (row ++ #[rawInt at_.line, rawInt at_.col, .ref k]))) k (CodeO k (X.env.qual ++ "<lambda>")) b = some o → Nd o := fun b o e => by
      by_cases c : b = k
      · rw [c, upd_same] at e
        rw [← Option.some.inj e]
        exact True.intro
      · rw [upd_ne c] at e
        exact t1 b o e
    refine go hp'.objs.size k ((X.mg "__name__").getD .none) u2 _ _ J ⟨grow, tabs, t2⟩ (Heap.get?_push_size _ rfl) ?_ (far _ far2) upd_same
    rw [upd_ne (Nat.ne_of_gt hlt), upd_ne (Nat.ne_of_gt (Nat.lt_of_lt_of_le (Heap.lt_size rowAt) far2))]
    exact I.hok.fresh far2
  · obtain ⟨k, rfl, hk⟩ := known at_ cv hc
    refine PySem.W.kla_makeFunctionHit (mg := X.mg) (c := cA) (P := pA) (ps := row) (closure_ok caps) I.ok.glob (I.mod.glob.keeps I.bk) hcode (tb.code.keeps I.bk) rowAt good hc bAt fun u2 hp' tk hx far2 => ?_
    have J : Inv X pins σ H { s with heap := hp'.push (PySem.W.kla_obj "<lambda>" (X.env.qual ++ "<lambda>") ar bd ls (cloFrom X.env.cells ls.names []) ((X.mg "__name__").getD .none) k u2), toks := tk } := I.kept fun b o e => Heap.get?_push_of_some _ (hx b o e)
    exact go hp'.objs.size k ((X.mg "__name__").getD .none) u2 H _ J (Gw.refl t) (Heap.get?_push_size _ rfl) (I.hok.fresh far2) (far _ far2) hk
theorem pe_sortL {c P : Addr} {k j : Nat} {e : Expr} {te tb : TE} {params : Arguments} {body : Expr} {scope : Scope} {p cn : Str} {lpos kpos pos sp : Pos} (he : PE X e te) (hg : Gl X "sorted") (hm : X.mg "sorted" = none)
    (TB : TabB X.base X.mg c P) (hcode : X.env.code = .ref c) (hmT : (P, X.env.qual ++ "<lambda>") ∈ T) (hu : ∀ p ∈ T, p.1 = P → p.2 = X.env.qual ++ "<lambda>") (hr : Room (k + 3) X.A) (L : LamP X.env.scope scope p cn) (hdef : defaultsOf params X.env = ([], []))
    (hj : X.N[j]? = some cn) (hbind : ∀ (q : Str) (cl : List (Str × Addr)) (pm cv ctv u : Value), bindArgs (PySem.W.kla_fn "<lambda>" q params body scope cl pm cv ctv) ⟨[u], []⟩ = pure [(p, u)])
    (hbody : ∀ (s : Shared) (H : Hp) (f c' : Addr), Room k (X.A.in1.in1.deeper (lamEnv X scope s.heap.objs.size f c')) → PE (lamC X X.A.in1.in1 s H scope f c' [p, cn]) body tb)
    (h1 : starEach [e] X.env = (false, eval e X.env) :: starEach [] X.env := by rfl) (hpl : (backTo pos (starEach [e] X.env)).any (·.1) = false := by rfl) :
    PE X (.Call (.Name "sorted" sp) [e] [⟨some "key", .Lambda params body scope lpos, kpos⟩] pos) (tSortL T X.K j te tb) := by
  refine ⟨fun pins s σ H Q I h => ?_⟩
  refine wpAny_Call_Name_kw (ld_blt I hg hm (by rfl) ?_ (by decide) (by decide))
  refine PyProof.Rows.callWith_kw ?_ (by rw [h1]; rfl) hpl (by rfl) (by rfl)
  rw [h1]
  show wpAny _ _ (spliced ((false, eval e X.env) :: backTo pos (starEach [] X.env))) _ _ s
  refine Calls.spliced_cons (thn (he.run pins s σ H _ I h) fun u s1 ⟨x, H1, I1, r1, q1⟩ => ?_)
  obtain ⟨a, xs, ds, kf, wv, rfl, hs, hd, few, ok, tT, hσ, hb, q⟩ := q1
  obtain rfl : u = Value.ref a := r1
  refine Calls.spliced_nil ?_
  show wpAny _ _ (evalAll ((do let v ← eval (.Lambda params body scope lpos) X.env; standAt pos; pure v) :: [])) _ _ s1
  refine wpAny_evalAll_cons (wpAny_bind (lam_laid I1 TB hcode hmT hu tT hdef (L.has I1.ok) fun f c' pm ctv H2 s2 I2 g2 hf hfn hfr hco => wpAny_bind (wpAny_standAt (wpAny_pure (wpAny_evalAll_nil ?_)))))
  show wpAny _ _ (call (.builtin "sorted") [.ref a] [(Str.ofString "key", .ref f)]) _ _ s2
  obtain ⟨us, ty, o, n, hT, ho, hc, hdt, rv⟩ := seq_at (X := X) I2 (a := a) (xs := xs) (hs.imp (fun h => SqL.gw h g2) fun h => SqT.gw h g2)
  obtain ⟨bs, eb, b2, b1⟩ := vd_of (DpAll.gw g2 _ _ hd) rv
  have hfl : f ≠ X.env.locals := fun z => by
    obtain ⟨m, ⟨o2, es, ep, ho2, hd2, _⟩, _⟩ := I2.loc
    rw [← z, hf] at ho2
    cases ho2
    cases hd2
  have I3 : Inv X (pins ++ [(f, PySem.W.kla_obj "<lambda>" (X.env.qual ++ "<lambda>") params body scope (cloFrom X.env.cells scope.names []) pm c' ctv)]) σ H2 s2 := I2.pins_of fun p hp => by
    rcases List.mem_append.mp hp with hp | hp
    · exact I2.pin p (List.mem_append_right _ hp)
    · rw [List.mem_singleton.mp hp]
      exact ⟨hf, hfn, hfl, fun z => hfr (fs_sub I2.ok f z), fun v z => nomatch z⟩
  have low : us.length ≤ 1000 := by
    have q1 := eb.length
    have q2 := congrArg List.length b2
    rw [List.length_map] at q2
    omega
  have ok2 : Ord (bs.map fun b => kf b.2) := by
    have e : (bs.map fun b => kf b.2) = ds.map kf := by rw [← b2, List.map_map]; rfl
    rw [e]
    exact ok
  have rr := hr.in1.in1
  have main := sorted_key (Q := Q) (E := X.xe) (kf := kf) (a := a) I3 g2.2 (List.mem_append_right _ List.mem_cons_self) hT ho hc hdt eb low ok2 (hr.units) (fun b u pins' s3 H3 hbm hrb hpin I4 g3 => ?_) fun H3 p' bs' g3 hn pm pw => ?_
  · exact wpAny_mono main (fun u s' ⟨v, H', J, r, z⟩ => ⟨v, H', J.unpinned, r, z⟩) fun _ _ e => e
  · have hf3 := (I4.pin _ (List.mem_append_right _ hpin)).1
    have bd : b.2 ∈ ds := by rw [← b2]; exact List.mem_map.mpr ⟨b, hbm, rfl⟩
    have dpb : Dp X.K H3 b.1 b.2 := Dp.gw g3 _ _ (dp_mem (by rw [b1, b2]; exact DpAll.gw g2 _ _ hd) b hbm)
    refine lam_call (A := X.A.in1.in1) I4 L I4.ok.frames rr.hd rr.depth hf3 (g3.1 _ _ hco (fun ps => codeO_ne ps)) (hbind _ _ _ _ _ _) hj hσ hrb (hbody _ _ _ _ (rr.deeper _)) ?_
    exact hb b.1 b.2 H3 _ (g2.trans g3) bd dpb fun kv H4 g4 dk => ⟨g4, dk⟩
  · have sub : ∀ b ∈ bs', Dp X.K H3 b.1 b.2 := fun b hb' => Dp.gw g3 _ _ (dp_mem (by rw [b1, b2]; exact DpAll.gw g2 _ _ hd) b (pm.mem_iff.mp hb'))
    refine q p' (bs'.map (·.1)) (bs'.map (·.2)) H3 (g2.trans g3) hn (vd_all sub) ?_ (List.pairwise_map.mpr pw)
    rw [← b2]
    exact pm.map _
end
end LB
end
section
set_option autoImplicit false
set_option Elab.async false
set_option linter.all false
set_option maxRecDepth 100000
set_option maxHeartbeats 4000000
/-! Judgements on data: what an expression, a test, a body gives, told without the heap. -/
namespace LB
open PySem PySem.Spec PyProof.Rows L2 LamX

/-- the slots hold the data δ -/
def DS (K : PySem.W.Frag) (H : Hp) (σ : L2.St) (δ : List (Option PyData)) : Prop := ∀ (i : Nat) (d : PyData), δ[i]? = some (some d) → ∃ v, σ[i]? = some (some v) ∧ Dp K H v d
variable {T : List (Addr × Str)}
theorem DS.gw {K : PySem.W.Frag} {H H' : Hp} {σ : L2.St} {δ : List (Option PyData)} (h : DS K H σ δ) (g : Gw T H H') : DS K H' σ δ := fun i d e => by
  obtain ⟨v, a, b⟩ := h i d e
  exact ⟨v, a, Dp.gw g _ _ b⟩
theorem DS.set {K : PySem.W.Frag} {H : Hp} {σ : L2.St} {δ : List (Option PyData)} {i : Nat} {v : V} {d : PyData} (h : DS K H σ δ) (hi : i < σ.length) (hv : Dp K H v d) : DS K H (σ.set i (some v)) (δ.set i (some d)) := fun j e he => by
  by_cases c : i = j
  · subst c
    rw [List.getElem?_set] at he ⊢
    rw [if_pos rfl] at he ⊢
    split at he
    · have he := Option.some.inj (Option.some.inj he)
      subst he
      exact ⟨v, by rw [if_pos hi], hv⟩
    · cases he
  · rw [List.getElem?_set_ne c] at he ⊢
    exact h j e he
theorem DS.weak {K : PySem.W.Frag} {H : Hp} {σ : L2.St} {δ δ' : List (Option PyData)} (h : DS K H σ δ) (w : ∀ (i : Nat) (d : PyData), δ'[i]? = some (some d) → δ[i]? = some (some d)) : DS K H σ δ' := fun i d e => h i d (w i d e)

def evT (X : Cx) (e : Expr) : TE := fun σ H Q => ∀ pins s, Inv X pins σ H s → wpAny (model X.prog X.w) X.A (eval e X.env) (EP X pins σ Q) X.xe s
def tvT (X : Cx) (e : Expr) : TT := fun σ H Q => ∀ pins s, Inv X pins σ H s → wpAny (model X.prog X.w) X.A (isTrue e X.env (eval e X.env)) (TP X pins σ Q) X.xe s
def avT (X : Cx) (es : List Expr) : TA := fun σ H Q => ∀ pos pins s, Inv X pins σ H s → wpAny (model X.prog X.w) X.A (spliced (backTo pos (starEach es X.env))) (AP X pins σ Q) X.xe s
def svT (X : Cx) (st : Stmt) : TS := fun D σ H => ∀ pins s, Inv X pins σ H s → wpAny (model X.prog X.w) X.A (exec st X.env) (SP X pins D) X.xe s
def ssT (X : Cx) (st : List Stmt) : TS := fun D σ H => ∀ pins s, Inv X pins σ H s → wpAny (model X.prog X.w) X.A (execs st X.env) (SP X pins D) X.xe s
section
variable {X : Cx} {e : Expr} {es : List Expr} {st : Stmt} {sts : List Stmt} {δ δ' : List (Option PyData)} {d : PyData} {ds : List PyData} {σ : L2.St} {H : Hp}
theorem pe_ev : PE X e (evT X e) := ⟨fun pins s σ H Q I h => h pins s I⟩
theorem pt_ev : L2.PT X e (tvT X e) := ⟨fun pins s σ H Q I h => h pins s I⟩
theorem pa_ev : PA X es (avT X es) := ⟨fun pos pins s σ H Q I h => h pos pins s I⟩
theorem ps_ev : PS X st (svT X st) := ⟨fun pins s σ H D I h => h pins s I⟩
theorem pss_ev : PSs X sts (ssT X sts) := ⟨fun pins s σ H D I h => h pins s I⟩

/-- e gives the datum d -/
def De (X : Cx) (T : List (Addr × Str)) (δ : List (Option PyData)) (e : Expr) (d : PyData) : Prop := ∀ σ H, σ.length = X.N.length → DS X.K H σ δ → Tabs T H → evT X e σ H fun v H' => Gw T H H' ∧ Dp X.K H' v d
def Dt (X : Cx) (T : List (Addr × Str)) (δ : List (Option PyData)) (e : Expr) (b : Bool) : Prop := ∀ σ H, σ.length = X.N.length → DS X.K H σ δ → Tabs T H → tvT X e σ H fun b' H' => b' = b ∧ Gw T H H'
def Da (X : Cx) (T : List (Addr × Str)) (δ : List (Option PyData)) (es : List Expr) (ds : List PyData) : Prop := ∀ σ H, σ.length = X.N.length → DS X.K H σ δ → Tabs T H → avT X es σ H fun vs H' => Gw T H H' ∧ DpAll X.K H' vs ds
/-- the statements return the datum d -/
def Dr (X : Cx) (T : List (Addr × Str)) (δ : List (Option PyData)) (sts : List Stmt) (d : PyData) : Prop := ∀ σ H (D : Ends), σ.length = X.N.length → DS X.K H σ δ → Tabs T H → (∀ v H', Gw T H H' → Dp X.K H' v d → D.rt v H') → ssT X sts D σ H
/-- the statements end, the slots then hold δ' -/
def Dn (X : Cx) (T : List (Addr × Str)) (δ : List (Option PyData)) (sts : List Stmt) (δ' : List (Option PyData)) : Prop := ∀ σ H (D : Ends), σ.length = X.N.length → DS X.K H σ δ → Tabs T H → (∀ σ' H', σ'.length = X.N.length → Gw T H H' → DS X.K H' σ' δ' → D.nx σ' H') → ssT X sts D σ H
theorem evT.mono {Q Q' : VK} (h : evT X e σ H Q) (q : ∀ v H', Q v H' → Q' v H') : evT X e σ H Q' := fun pins s I => thn (h pins s I) fun u s' ⟨v, H', J, r, z⟩ => ⟨v, H', J, r, q v H' z⟩
theorem tvT.mono {Q Q' : Bool → Hp → Prop} (h : tvT X e σ H Q) (q : ∀ v H', Q v H' → Q' v H') : tvT X e σ H Q' := fun pins s I => thn (h pins s I) fun u s' ⟨H', J, z⟩ => ⟨H', J, q u H' z⟩
theorem avT.mono {Q Q' : List V → Hp → Prop} (h : avT X es σ H Q) (q : ∀ v H', Q v H' → Q' v H') : avT X es σ H Q' := fun pos pins s I => thn (h pos pins s I) fun u s' ⟨v, H', J, r, z⟩ => ⟨v, H', J, r, q v H' z⟩
theorem De.go {Q : VK} (h : De X T δ e d) (hl : σ.length = X.N.length) (hd : DS X.K H σ δ) (t : Tabs T H) (q : ∀ v H', Gw T H H' → Dp X.K H' v d → Q v H') : evT X e σ H Q := evT.mono (h σ H hl hd t) fun v H' z => q v H' z.1 z.2
theorem Dt.go {b : Bool} {Q : Bool → Hp → Prop} (h : Dt X T δ e b) (hl : σ.length = X.N.length) (hd : DS X.K H σ δ) (t : Tabs T H) (q : ∀ H', Gw T H H' → Q b H') : tvT X e σ H Q := tvT.mono (h σ H hl hd t) fun v H' z => by rw [z.1]; exact q H' z.2
theorem Da.go {Q : List V → Hp → Prop} (h : Da X T δ es ds) (hl : σ.length = X.N.length) (hd : DS X.K H σ δ) (t : Tabs T H) (q : ∀ v H', Gw T H H' → DpAll X.K H' v ds → Q v H') : avT X es σ H Q := avT.mono (h σ H hl hd t) fun v H' z => q v H' z.1 z.2
theorem De.of {te : TE} (pe : PE X e te) (h : ∀ σ H Q, σ.length = X.N.length → DS X.K H σ δ → Tabs T H → (∀ v H', Gw T H H' → Dp X.K H' v d → Q v H') → te σ H Q) : De X T δ e d :=
  fun σ H hl hd t pins s I => pe.run pins s σ H _ I (h σ H _ hl hd t fun v H' g dv => ⟨g, dv⟩)
theorem Dt.of {tt : TT} {b : Bool} (pt : L2.PT X e tt) (h : ∀ σ H Q, σ.length = X.N.length → DS X.K H σ δ → Tabs T H → (∀ H', Gw T H H' → Q b H') → tt σ H Q) : Dt X T δ e b :=
  fun σ H hl hd t pins s I => pt.run pins s σ H _ I (h σ H _ hl hd t fun H' g => ⟨rfl, g⟩)
theorem Da.of {ta : TA} (pa : PA X es ta) (h : ∀ σ H Q, σ.length = X.N.length → DS X.K H σ δ → Tabs T H → (∀ v H', Gw T H H' → DpAll X.K H' v ds → Q v H') → ta σ H Q) : Da X T δ es ds :=
  fun σ H hl hd t pos pins s I => pa.run pos pins s σ H _ I (h σ H _ hl hd t fun v H' g dv => ⟨g, dv⟩)
theorem Dr.of {ts : TS} (ps : PSs X sts ts) (h : ∀ σ H (D : Ends), σ.length = X.N.length → DS X.K H σ δ → Tabs T H → (∀ v H', Gw T H H' → Dp X.K H' v d → D.rt v H') → ts D σ H) : Dr X T δ sts d :=
  fun σ H D hl hd t q pins s I => ps.run pins s σ H D I (h σ H D hl hd t q)
theorem Dn.of {ts : TS} (ps : PSs X sts ts) (h : ∀ σ H (D : Ends), σ.length = X.N.length → DS X.K H σ δ → Tabs T H → (∀ σ' H', σ'.length = X.N.length → Gw T H H' → DS X.K H' σ' δ' → D.nx σ' H') → ts D σ H) : Dn X T δ sts δ' :=
  fun σ H D hl hd t q pins s I => ps.run pins s σ H D I (h σ H D hl hd t q)

/-! ### names and constants -/
theorem De.var {i : Nat} {x : Str} {pos : Pos} (hd : δ[i]? = some (some d) := by rfl) (hN : X.N[i]? = some x := by rfl) (hv : Vis X.env.scope x := by first | exact Or.inl rfl | exact Or.inr (Or.inl rfl) | exact Or.inr (Or.inr rfl))
    (h1 : (x == ("__debug__" : Str)) = false := by decide) (h2 : (x == ("__classdict__" : Str)) = false := by decide) : De X T δ (.Name x pos) d :=
  De.of (pe_var hN hv h1 h2) fun σ H Q _ ds t q => let ⟨v, e, dv⟩ := ds i d hd; ⟨v, e, q v H (Gw.refl t) dv⟩
theorem De.int {i : Int} {j : Nat} {pos : Pos} : De X T δ (.Constant (.int i) j pos) (.int i) := De.of pe_int fun σ H Q _ ds t q => q _ H (Gw.refl t) (.int i)
theorem De.str {x : Str} {j : Nat} {pos : Pos} : De X T δ (.Constant (.str x) j pos) (.str x) := De.of pe_str fun σ H Q _ ds t q => q _ H (Gw.refl t) (.str x)
theorem De.bl {b : Bool} {j : Nat} {pos : Pos} : De X T δ (.Constant (.bool b) j pos) (.bool b) := De.of pe_bl fun σ H Q _ ds t q => q _ H (Gw.refl t) (.bl b)
theorem De.non {j : Nat} {pos : Pos} : De X T δ (.Constant .none j pos) .none := De.of pe_non fun σ H Q _ ds t q => q _ H (Gw.refl t) .non
/-- a module's constant -/
def GC (X : Cx) (x : Str) (d : PyData) : Prop := ∃ v u, X.mg x = some u ∧ RelV v u ∧ ∀ H, Dp X.K H v d
theorem De.glob {x : Str} {pos : Pos} (c : GC X x d) (hg : Gl X x := by rfl) (hd : (x == ("__debug__" : Str)) = false := by decide) : De X T δ (.Name x pos) d := by
  obtain ⟨v, u, hm, r, dv⟩ := c
  exact De.of (pe_glob hg hm r hd) fun σ H Q _ ds t q => q _ H (Gw.refl t) (dv H)

/-! ### argument lists, displays -/
theorem Da.nil : Da X T δ [] [] := Da.of pa_nil fun σ H Q _ ds t q => q [] H (Gw.refl t) .nil
theorem Da.cons (h : De X T δ e d) (hs : Da X T δ es ds) (he : starEach (e :: es) X.env = (false, eval e X.env) :: starEach es X.env := by rfl) : Da X T δ (e :: es) (d :: ds) :=
  Da.of (pa_cons pe_ev pa_ev he) fun σ H Q hl hd t q => h.go hl hd t fun v H1 g1 d1 => hs.go hl (hd.gw g1) g1.2 fun vs H2 g2 d2 => q _ _ (g1.trans g2) (.cons (Dp.gw g2 _ _ d1) d2)
theorem Da.star {p : Pos} {ds1 : List PyData} (h : De X T δ e (.list ds1) ∨ De X T δ e (.tuple ds1)) (hs : Da X T δ es ds) (he : starEach (.Starred e p :: es) X.env = (true, eval e X.env) :: starEach es X.env := by rfl) : Da X T δ (.Starred e p :: es) (ds1 ++ ds) := by
  have app : ∀ {H : Hp} {vs : List V} {ds1 : List PyData} {ws : List V} {ds : List PyData}, DpAll X.K H vs ds1 → DpAll X.K H ws ds → DpAll X.K H (vs ++ ws) (ds1 ++ ds) := by
    intro H vs ds1 ws ds h1 h2
    induction vs generalizing ds1 with
    | nil => cases h1; exact h2
    | cons v vs ih =>
      cases h1 with
      | cons a b => exact .cons a (ih b)
  refine Da.of (StX.pa_star pe_ev pa_ev he) fun σ H Q hl hd t q => ?_
  have use : ∀ v H1, Gw T H H1 → (Dp X.K H1 v (.list ds1) ∨ Dp X.K H1 v (.tuple ds1)) → (∃ a xs, v = .ref a ∧ (SqT X.K H1 a xs ∨ SqL X.K H1 a xs) ∧ avT X es σ H1 fun zs H2 => Q (xs ++ zs) H2) := by
    intro v H1 g1 z
    rcases z with z | z
    · cases z with
      | lst a b => exact ⟨_, _, rfl, .inr a, hs.go hl (hd.gw g1) g1.2 fun vs H2 g2 d2 => q _ _ (g1.trans g2) (app (DpAll.gw g2 _ _ b) d2)⟩
    · cases z with
      | tup a b => exact ⟨_, _, rfl, .inl a, hs.go hl (hd.gw g1) g1.2 fun vs H2 g2 d2 => q _ _ (g1.trans g2) (app (DpAll.gw g2 _ _ b) d2)⟩
  rcases h with h | h
  · exact h.go hl hd t fun v H1 g1 d1 => use v H1 g1 (.inl d1)
  · exact h.go hl hd t fun v H1 g1 d1 => use v H1 g1 (.inr d1)
/-- laying a tuple: its object has no dict -/
theorem laid_N {X : Cx} {pins : List (Addr × Obj)} {σ : L2.St} {s : Shared} {h2 : Heap} {tk : Nat} {H : Hp} {vs : List V} {us : List Value} {a : Addr} (I : Inv X pins σ H s) (kp : ∀ b o, s.heap.get? b = some o → h2.get? b = some o) (far : s.heap.objs.size ≤ a) (z : vs.length ≤ sizeLine) (r : Vals vs us)
    (at_ : h2.get? a = some { cls := .type "tuple", data := .seq us.toArray }) : Inv X pins σ (upd H a (.frz { cls := .type "tuple", data := .seq us.toArray } (.tup vs))) { s with heap := h2, toks := tk } :=
  I.laid kp far ⟨at_, z, us, r, ⟨_, at_, rfl, _, rfl⟩⟩
def tTupN (t : TA) : TE := fun σ H Q => t σ H fun xs H1 => xs.length ≤ sizeLine ∧ ∀ (p : Addr) (o : Obj), H1 p = none → o.dict = none → Q (.ref p) (upd H1 p (.frz o (.tup xs)))
theorem pe_tupN {X : Cx} {es : List Expr} {t : TA} {x1 : Nat} {pos : Pos} (h : PA X es t) : PE X (.Tuple es x1 pos) (tTupN t) := by
  refine ⟨fun pins s σ H Q I hq => wpAny_Tuple_spliced (thn (h.run pos pins s σ H _ I hq) fun us s1 ⟨xs, H1, I1, r, z, q⟩ => ⟨(r.length ▸ z), ?_⟩)⟩
  exact ⟨.ref s1.heap.objs.size, _, laid_N (tk := s1.toks) I1 (fun b u e => Heap.get?_push_of_some _ e) (Nat.le_refl _) z r (Heap.get?_push_size _ rfl), rfl, q _ _ (I1.hok.fresh (Nat.le_refl _)) rfl⟩
theorem lay_tup {K : PySem.W.Frag} {vs : List V} {p : Addr} {o : Obj} (n : H p = none) (nd : o.dict = none) (dv : DpAll K H vs ds) (t : Tabs T H) : Gw T H (upd H p (.frz o (.tup vs))) ∧ Dp K (upd H p (.frz o (.tup vs))) (.ref p) (.tuple ds) :=
  have g := (Gw.refl t).upd n (o := .frz o (.tup vs)) nd
  ⟨g, .tup (.inl (.inr ⟨o, upd_same⟩)) (DpAll.gw g _ _ dv)⟩
theorem lay_lst {K : PySem.W.Frag} {vs : List V} {p : Addr} (n : H p = none) (dv : DpAll K H vs ds) (t : Tabs T H) : Gw T H (upd H p (.lst vs)) ∧ Dp K (upd H p (.lst vs)) (.ref p) (.list ds) :=
  ⟨(Gw.refl t).upd n, .lst (SqL.of upd_same) (DpAll.gw ((Gw.refl t).upd n) _ _ dv)⟩
theorem few_line {K : PySem.W.Frag} {vs : List V} (dv : DpAll K H vs ds) (hn : ds.length ≤ 1000) : vs.length ≤ sizeLine := by
  rw [dpAll_len dv, sizeLine_eq]
  omega
theorem De.tup {x1 : Nat} {pos : Pos} (h : Da X T δ es ds) (hn : ds.length ≤ 1000 := by first | decide | (simp only [List.length_cons, List.length_nil]; omega)) : De X T δ (.Tuple es x1 pos) (.tuple ds) :=
  De.of (pe_tupN pa_ev) fun σ H Q hl hd t q => h.go hl hd t fun vs H1 g1 dv => ⟨few_line dv hn, fun p o hp nd => q _ _ (g1.trans (lay_tup hp nd dv g1.2).1) (lay_tup hp nd dv g1.2).2⟩
theorem De.lst {pos : Pos} (h : Da X T δ es ds) (hn : ds.length ≤ 1000 := by first | decide | (simp only [List.length_cons, List.length_nil]; omega)) : De X T δ (.List es pos) (.list ds) :=
  De.of (pe_lst pa_ev) fun σ H Q hl hd t q => h.go hl hd t fun vs H1 g1 dv => ⟨few_line dv hn, fun p hp => q _ _ (g1.trans (lay_lst hp dv g1.2).1) (lay_lst hp dv g1.2).2⟩

/-! ### subscripts -/
theorem dpAll_get {K : PySem.W.Frag} {H : Hp} {vs : List V} {ds : List PyData} {k : Nat} {d : PyData} (h : DpAll K H vs ds) (e : ds[k]? = some d) : ∃ v, vs[k]? = some v ∧ Dp K H v d := by
  induction vs generalizing ds k with
  | nil => cases h; simp at e
  | cons v vs ih =>
    cases h with
    | cons h1 t =>
      cases k with
      | zero => exact ⟨v, rfl, by rw [← Option.some.inj e]; exact h1⟩
      | succ k => exact ih t e
variable {a b : Expr} {pos : Pos}
theorem De.ixT {k : Nat} (ha : De X T δ a (.tuple ds)) (hb : De X T δ b (.int (k : Nat))) (hk : ds[k]? = some d) (hs : PlainIx b := by intro _ _; rfl) : De X T δ (.Subscript a b pos) d :=
  De.of (pe_ix ix_tup pe_ev pe_ev hs) fun σ H Q hl hd t q => ha.go hl hd t fun x H1 g1 d1 => hb.go hl (hd.gw g1) g1.2 fun y H2 g2 d2 => by
    cases d2
    cases Dp.gw g2 _ _ d1 with
    | tup hs hv =>
      obtain ⟨v, e, dv⟩ := dpAll_get hv hk
      exact ⟨_, _, _, v, rfl, rfl, hs, atI_nat e, q _ _ (g1.trans g2) dv⟩
theorem De.ixL {k : Nat} (ha : De X T δ a (.list ds)) (hb : De X T δ b (.int (k : Nat))) (hk : ds[k]? = some d) (hs : PlainIx b := by intro _ _; rfl) : De X T δ (.Subscript a b pos) d :=
  De.of (pe_ix ix_list pe_ev pe_ev hs) fun σ H Q hl hd t q => ha.go hl hd t fun x H1 g1 d1 => hb.go hl (hd.gw g1) g1.2 fun y H2 g2 d2 => by
    cases d2
    cases Dp.gw g2 _ _ d1 with
    | lst hs hv =>
      obtain ⟨v, e, dv⟩ := dpAll_get hv hk
      exact ⟨_, _, _, v, rfl, rfl, hs, atI_nat e, q _ _ (g1.trans g2) dv⟩

/-! ### comparisons -/
theorem De.eq {d2 : PyData} (hu : X.A.units + 64 < cLine) (ha : De X T δ a d) (hb : De X T δ b d2) (s1 : SeqAt.shaped d = true) (s2 : SeqAt.shaped d2 = true) : De X T δ (.Compare a [.Eq] [b] pos) (.bool (PyData.eqv d d2)) :=
  De.of (pe_cmpR (op_eqD hu) pe_ev pe_ev (nomark _)) fun σ H Q hl hd t q => ha.go hl hd t fun x H1 g1 d1 => hb.go hl (hd.gw g1) g1.2 fun y H2 g2 d2 => ⟨_, _, Dp.gw g2 _ _ d1, d2, s1, s2, q _ _ (g1.trans g2) (.bl _)⟩
theorem De.ne {d2 : PyData} (hu : X.A.units + 64 < cLine) (ha : De X T δ a d) (hb : De X T δ b d2) (s1 : SeqAt.shaped d = true) (s2 : SeqAt.shaped d2 = true) : De X T δ (.Compare a [.NotEq] [b] pos) (.bool (!PyData.eqv d d2)) :=
  De.of (pe_cmpR (op_neD hu) pe_ev pe_ev (nomark _)) fun σ H Q hl hd t q => ha.go hl hd t fun x H1 g1 d1 => hb.go hl (hd.gw g1) g1.2 fun y H2 g2 d2 => ⟨_, _, Dp.gw g2 _ _ d1, d2, s1, s2, q _ _ (g1.trans g2) (.bl _)⟩
theorem Dt.eq {d2 : PyData} (hu : X.A.units + 64 < cLine) (ha : De X T δ a d) (hb : De X T δ b d2) (s1 : SeqAt.shaped d = true) (s2 : SeqAt.shaped d2 = true) : Dt X T δ (.Compare a [.Eq] [b] pos) (PyData.eqv d d2) :=
  Dt.of (pt_cmpR (op_eqD hu) pe_ev pe_ev (nomark _)) fun σ H Q hl hd t q => ha.go hl hd t fun x H1 g1 d1 => hb.go hl (hd.gw g1) g1.2 fun y H2 g2 d2 => ⟨_, _, Dp.gw g2 _ _ d1, d2, s1, s2, _, rfl, q _ (g1.trans g2)⟩
theorem Dt.ne {d2 : PyData} (hu : X.A.units + 64 < cLine) (ha : De X T δ a d) (hb : De X T δ b d2) (s1 : SeqAt.shaped d = true) (s2 : SeqAt.shaped d2 = true) : Dt X T δ (.Compare a [.NotEq] [b] pos) (!PyData.eqv d d2) :=
  Dt.of (pt_cmpR (op_neD hu) pe_ev pe_ev (nomark _)) fun σ H Q hl hd t q => ha.go hl hd t fun x H1 g1 d1 => hb.go hl (hd.gw g1) g1.2 fun y H2 g2 d2 => ⟨_, _, Dp.gw g2 _ _ d1, d2, s1, s2, _, rfl, q _ (g1.trans g2)⟩
def isN : PyData → Bool
  | .none => true
  | _ => false
theorem isN_iff {K : PySem.W.Frag} {v : V} (h : Dp K H v d) : decide (v = .non) = isN d := by cases h <;> rfl
theorem De.isN {j : Nat} {p : Pos} (ha : De X T δ a d) : De X T δ (.Compare a [.Is] [.Constant .none j p] pos) (.bool (LB.isN d)) :=
  De.of (pe_cmp (pc_isN pe_ev)) fun σ H Q hl hd t q => ha.go hl hd t fun x H1 g1 d1 => q _ _ g1 (by rw [isN_iff d1]; exact .bl _)
theorem De.notN {j : Nat} {p : Pos} (ha : De X T δ a d) : De X T δ (.Compare a [.IsNot] [.Constant .none j p] pos) (.bool (!LB.isN d)) :=
  De.of (pe_cmp (pc_notN pe_ev)) fun σ H Q hl hd t q => ha.go hl hd t fun x H1 g1 d1 => q _ _ g1 (by rw [isN_iff d1]; exact .bl _)
theorem Dt.isN {j : Nat} {p : Pos} (ha : De X T δ a d) : Dt X T δ (.Compare a [.Is] [.Constant .none j p] pos) (LB.isN d) :=
  Dt.of (pt_cmp (pc_isN pe_ev)) fun σ H Q hl hd t q => ha.go hl hd t fun x H1 g1 d1 => ⟨_, rfl, by rw [isN_iff d1]; exact q _ g1⟩
theorem Dt.notN {j : Nat} {p : Pos} (ha : De X T δ a d) : Dt X T δ (.Compare a [.IsNot] [.Constant .none j p] pos) (!LB.isN d) :=
  Dt.of (pt_cmp (pc_notN pe_ev)) fun σ H Q hl hd t q => ha.go hl hd t fun x H1 g1 d1 => ⟨_, rfl, by rw [isN_iff d1]; exact q _ g1⟩
/-- ints by one comparison -/
theorem Dt.int {op : CmpOp} {i j : Int} {r : Int → Int → Bool} {tt : TE → TE → TE} (pc : ∀ {ta tb : TE}, PE X a ta → PE X b tb → PC X op a b (tt ta tb))
    (hr : ∀ {ta tb : TE} {σ H Q}, tt ta tb σ H Q = t2I ta tb (fun i j H2 => Q (.bl (r i j)) H2) σ H) (ho : behindInMarks op b = false) (ha : De X T δ a (.int i)) (hb : De X T δ b (.int j)) : Dt X T δ (.Compare a [op] [b] pos) (r i j) :=
  Dt.of (pt_cmp (pc pe_ev pe_ev) ho) fun σ H Q hl hd t q => by
    show tt (evT X a) (evT X b) σ H _
    rw [hr]
    exact ha.go hl hd t fun x H1 g1 d1 => hb.go hl (hd.gw g1) g1.2 fun y H2 g2 d2 => by
      cases d1
      cases d2
      exact ⟨i, j, rfl, rfl, _, rfl, q _ (g1.trans g2)⟩
theorem De.intC {op : CmpOp} {i j : Int} {r : Int → Int → Bool} {tt : TE → TE → TE} (pc : ∀ {ta tb : TE}, PE X a ta → PE X b tb → PC X op a b (tt ta tb))
    (hr : ∀ {ta tb : TE} {σ H Q}, tt ta tb σ H Q = t2I ta tb (fun i j H2 => Q (.bl (r i j)) H2) σ H) (ho : behindInMarks op b = false) (ha : De X T δ a (.int i)) (hb : De X T δ b (.int j)) : De X T δ (.Compare a [op] [b] pos) (.bool (r i j)) :=
  De.of (pe_cmp (pc pe_ev pe_ev) ho) fun σ H Q hl hd t q => by
    rw [hr]
    exact ha.go hl hd t fun x H1 g1 d1 => hb.go hl (hd.gw g1) g1.2 fun y H2 g2 d2 => by
      cases d1
      cases d2
      exact ⟨i, j, rfl, rfl, q _ _ (g1.trans g2) (.bl _)⟩

/-! ### tests -/
theorem Dt.val {b : Bool} (h : De X T δ e (.bool b)) (he : ∀ whole, isTrue e X.env whole = (do let v ← whole; standAt e.pos; holding [v] (truthy v)) := by intro _; rfl) : Dt X T δ e b :=
  Dt.of (pt_val pe_ev he) fun σ H Q hl hd t q => h.go hl hd t fun v H1 g1 d1 => by
    cases d1
    exact ⟨b, rfl, q _ g1⟩
theorem Dt.not {b : Bool} (h : Dt X T δ e b) : Dt X T δ (.UnaryOp .Not e pos) (!b) :=
  Dt.of (pt_not pt_ev) fun σ H Q hl hd t q => h.go hl hd t fun H1 g1 => q _ g1
def Dw (X : Cx) (T : List (Addr × Str)) (δ : List (Option PyData)) (e : Expr) (b : Bool) : Prop := ∃ tt, PW X e tt ∧ ∀ σ H Q, σ.length = X.N.length → DS X.K H σ δ → Tabs T H → (∀ H', Gw T H H' → Q b H') → tt σ H Q
theorem Dt.w {b : Bool} (h : Dw X T δ e b) : Dt X T δ e b := let ⟨tt, p, q⟩ := h; Dt.of p.pt q
variable {rest : List Expr} {c : Expr}
theorem Dw.and1 {k : Bool} (h : Dt X T δ a k) : Dw X T δ (.BoolOp .And [a] pos) k := ⟨_, pw_and1 pt_ev, fun σ H Q hl hd t q => h.go hl hd t q⟩
theorem Dw.or1 {k : Bool} (h : Dt X T δ a k) : Dw X T δ (.BoolOp .Or [a] pos) k := ⟨_, pw_or1 pt_ev, fun σ H Q hl hd t q => h.go hl hd t q⟩
theorem Dw.andT {k : Bool} (h : Dt X T δ a true) (hb : Dw X T δ (.BoolOp .And (b :: rest) pos) k) : Dw X T δ (.BoolOp .And (a :: b :: rest) pos) k := by
  obtain ⟨tt, p, z⟩ := hb
  exact ⟨_, pw_and pt_ev p, fun σ H Q hl hd t q => h.go hl hd t fun H1 g1 => by rw [if_pos rfl]; exact z σ H1 Q hl (hd.gw g1) g1.2 fun H2 g2 => q H2 (g1.trans g2)⟩
def never : TT := fun _ _ _ => False
theorem pw_never : PW X e never := ⟨fun _ _ _ _ _ _ _ h => h.elim⟩
theorem Dw.andF (h : Dt X T δ a false) : Dw X T δ (.BoolOp .And (a :: b :: rest) pos) false :=
  ⟨_, pw_and pt_ev (tB' := never) pw_never, fun σ H Q hl hd t q => h.go hl hd t fun H1 g1 => by rw [if_neg (by decide)]; exact q H1 g1⟩
theorem Dw.orT (h : Dt X T δ a true) : Dw X T δ (.BoolOp .Or (a :: b :: rest) pos) true :=
  ⟨_, pw_or pt_ev (tB' := never) pw_never, fun σ H Q hl hd t q => h.go hl hd t fun H1 g1 => by rw [if_pos rfl]; exact q H1 g1⟩
theorem Dw.orF {k : Bool} (h : Dt X T δ a false) (hb : Dw X T δ (.BoolOp .Or (b :: rest) pos) k) : Dw X T δ (.BoolOp .Or (a :: b :: rest) pos) k := by
  obtain ⟨tt, p, z⟩ := hb
  exact ⟨_, pw_or pt_ev p, fun σ H Q hl hd t q => h.go hl hd t fun H1 g1 => by rw [if_neg (by decide)]; exact z σ H1 Q hl (hd.gw g1) g1.2 fun H2 g2 => q H2 (g1.trans g2)⟩
/-- and, or as values -/
theorem De.one {op : BoolOp} (h : De X T δ a d) : De X T δ (.BoolOp op [a] pos) d := De.of (pe_one pe_ev) fun σ H Q hl hd t q => h.go hl hd t q
theorem De.andT (h : De X T δ a (.bool true)) (hb : De X T δ (.BoolOp .And (b :: rest) pos) d) : De X T δ (.BoolOp .And (a :: b :: rest) pos) d :=
  De.of (pe_and pe_ev pe_ev) fun σ H Q hl hd t q => h.go hl hd t fun v H1 g1 d1 => by
    cases d1
    exact ⟨true, rfl, by rw [if_pos rfl]; exact hb.go hl (hd.gw g1) g1.2 fun v2 H2 g2 d2 => q _ _ (g1.trans g2) d2⟩
theorem De.andF (h : De X T δ a (.bool false)) : De X T δ (.BoolOp .And (a :: b :: rest) pos) (.bool false) :=
  De.of (pe_and pe_ev pe_ev) fun σ H Q hl hd t q => h.go hl hd t fun v H1 g1 d1 => by
    cases d1
    exact ⟨false, rfl, by rw [if_neg (by decide)]; exact q _ _ g1 (.bl false)⟩
theorem De.orT (h : De X T δ a (.bool true)) : De X T δ (.BoolOp .Or (a :: b :: rest) pos) (.bool true) :=
  De.of (pe_or pe_ev pe_ev) fun σ H Q hl hd t q => h.go hl hd t fun v H1 g1 d1 => by
    cases d1
    exact ⟨true, rfl, by rw [if_pos rfl]; exact q _ _ g1 (.bl true)⟩
theorem De.orF (h : De X T δ a (.bool false)) (hb : De X T δ (.BoolOp .Or (b :: rest) pos) d) : De X T δ (.BoolOp .Or (a :: b :: rest) pos) d :=
  De.of (pe_or pe_ev pe_ev) fun σ H Q hl hd t q => h.go hl hd t fun v H1 g1 d1 => by
    cases d1
    exact ⟨false, rfl, by rw [if_neg (by decide)]; exact hb.go hl (hd.gw g1) g1.2 fun v2 H2 g2 d2 => q _ _ (g1.trans g2) d2⟩
theorem De.not {k : Bool} (h : De X T δ a (.bool k)) : De X T δ (.UnaryOp .Not a pos) (.bool (!k)) :=
  De.of (pe_not pe_ev) fun σ H Q hl hd t q => h.go hl hd t fun v H1 g1 d1 => by
    cases d1
    exact ⟨k, rfl, q _ _ g1 (.bl _)⟩
theorem De.ifT (hc : Dt X T δ c true) (h : De X T δ a d) : De X T δ (.IfExp c a b pos) d :=
  De.of (pe_ifExp pt_ev pe_ev pe_ev) fun σ H Q hl hd t q => hc.go hl hd t fun H1 g1 => by rw [if_pos rfl]; exact h.go hl (hd.gw g1) g1.2 fun v2 H2 g2 d2 => q _ _ (g1.trans g2) d2
theorem De.ifF (hc : Dt X T δ c false) (h : De X T δ b d) : De X T δ (.IfExp c a b pos) d :=
  De.of (pe_ifExp pt_ev pe_ev pe_ev) fun σ H Q hl hd t q => hc.go hl hd t fun H1 g1 => by rw [if_neg (by decide)]; exact h.go hl (hd.gw g1) g1.2 fun v2 H2 g2 d2 => q _ _ (g1.trans g2) d2
end
end LB
end
section
set_option autoImplicit false
set_option Elab.async false
set_option linter.all false
set_option maxRecDepth 100000
set_option maxHeartbeats 4000000
/-! enumerate of a tuple. -/
namespace LB
open PySem PySem.Spec PyProof.Rows L2

theorem meets_enumT (l : Addr) (items : Array Value) (n : Nat) (dct : Option Addr) (sl : Array (Option Value)) :
    Meets (Builtin.«enumerate.__new__» ⟨[.type "enumerate", .ref l], []⟩) (fun _ R s => s.heap.get? l = some { cls := .type "tuple", dict := dct, data := .seq items n, slots := sl } ∧
      R (.ok (.ret (.ref (s.heap.push { cls := .type "tuple_iterator", data := .fields #[.ref l, .int 0 0] }).objs.size)))
        { s with heap := (s.heap.push { cls := .type "tuple_iterator", data := .fields #[.ref l, .int 0 0] }).push { cls := .type "enumerate", data := .fields #[.none, .bool false, .ref s.heap.objs.size, rawInt 0, .none, .none] } }) :=
  .of_wp fun prog w A R s h => by
    obtain ⟨hp, g, d, tk, os⟩ := s
    obtain ⟨hl, h⟩ := h
    have hsub := sub_enumerate
    have hL : Heap.IsTuple (Shared.heap ⟨hp, g, d, tk, os⟩) l items := ⟨_, hl, rfl, n, rfl⟩
    wp_walk using AutoSeq1.wpAny_loadPart' hl
    refine wpAny_stack_any fun st => wpAny_pure ?_
    split
    · rename_i c _ _ _ _ _
      cases (c == Value.type "enumerate")
      all_goals
        wp_walk using AutoSeq1.wpAny_loadPart' hl, wpAny_pyIter_tuple hL
        exact ⟨_, rfl, h⟩
    · wp_walk using AutoSeq1.wpAny_loadPart' hl, wpAny_pyIter_tuple hL
      exact ⟨_, rfl, h⟩
theorem call_enumT {prog : Program} {w : World} {A : Around} {E : Value → Shared → Prop} {s : Shared} {l : Addr} {items : Array Value} {Q : Value → Shared → Prop} (hL : s.heap.IsTuple l items)
    (h : ∀ h', IsEnum h' (s.heap.objs.size + 1) s.heap.objs.size 0 .none → h'.IsTupleIter s.heap.objs.size l 0 → (∀ b o, s.heap.get? b = some o → h'.get? b = some o) → Q (.ref (s.heap.objs.size + 1)) { s with heap := h' }) :
    wpAny (model prog w) A (call (.type "enumerate") [.ref l]) Q E s := by
  obtain ⟨⟨c, dct, dt, sl⟩, hl, hc, n, hd⟩ := hL
  replace hc : c = .type "tuple" := hc
  replace hd : dt = .seq items n := hd
  subst hc hd
  refine callType_new F.called_enumerate (by decide) (F.typeCall_enumerate_1 _) (F.newCall_enumerate_1 _) (fun obj => F.args_object_init_2 obj _) F.entry_enumerate_new (meets_enumT l items n dct sl) ⟨hl, ?_⟩
  have hz : (s.heap.push { cls := .type "tuple_iterator", data := .fields #[.ref l, .int 0 0] }).objs.size = s.heap.objs.size + 1 := Heap.size_push ..
  show _ ∧ _
  rw [hz]
  have he : IsEnum ((s.heap.push { cls := .type "tuple_iterator", data := .fields #[.ref l, .int 0 0] }).push
      { cls := .type "enumerate", data := .fields #[.none, .bool false, .ref s.heap.objs.size, rawInt 0, .none, .none] }) (s.heap.objs.size + 1) s.heap.objs.size 0 .none := by
    have q := Heap.get?_push_size (s.heap.push { cls := .type "tuple_iterator", data := .fields #[.ref l, .int 0 0] }) (o := { cls := .type "enumerate", data := .fields #[.none, .bool false, .ref s.heap.objs.size, rawInt 0, .none, .none] }) rfl
    rw [hz] at q
    exact q
  exact ⟨⟨_, he, rfl⟩, h _ he ⟨_, Heap.get?_push_of_some _ (Heap.get?_push_size _ rfl), rfl, rfl⟩ fun b o x => Heap.get?_push_of_some _ (Heap.get?_push_of_some _ x)⟩
/-- the tuple at a, each item in a new pair -/
def IteT (K : PySem.W.Frag) (a : Addr) : It :=
  ⟨fun i H => ∃ (xs : List V) (x : V), SqT K H a xs ∧ xs[i]? = some x, fun i H v H' => ∃ T x, v = .ref T ∧ H T = none ∧ H' = upd H T (.tup [.int (i : Nat), x]) ∧ ∀ xs, SqT K H a xs → xs[i]? = some x, fun i H => ∃ xs : List V, SqT K H a xs ∧ xs.length ≤ i⟩
theorem turn_enumT {P : Program} {w : World} {K : PySem.W.Frag} {elts : List Expr} {kk : Nat} {tpos : Pos} (a e it : Addr) (hai : a ≠ it) :
    Turn P w K (.Tuple elts kk tpos) (IteT K a) [e, it] e (fun i h => (∃ old, IsEnum h e it ((i : Nat) : Int) old) ∧ h.IsTupleIter it a i ∧ e ≠ it ∧ e ≠ a) where
  mem := by simp
  obj := fun i h st b hb => by
    obtain ⟨⟨old, he⟩, ⟨o, ho, hc, hd⟩, _⟩ := st
    have e' : b = e ∨ b = it := by simpa using hb
    rcases e' with z | z
    · rw [z]; exact ⟨_, he, fun v q => nomatch q⟩
    · rw [z]; exact ⟨o, ho, fun v q => by rw [hd] at q; cases q⟩
  keep := fun i h h' st k => let ⟨⟨old, he⟩, hi, hne⟩ := st; ⟨⟨old, k e (by simp) _ he⟩, hi.at fun o q => k it (by simp) o q, hne⟩
  item := by
    intro X hP hw hK hc i pins s σ H E I hf st hg
    subst hP hw hK
    obtain ⟨⟨old, he⟩, hit, hne, hea⟩ := st
    obtain ⟨xs, x, hq, hx⟩ := hg
    obtain ⟨its, rv, p, hz⟩ := I.tuple hq
    obtain ⟨u, hu, ru⟩ := rv.get hx
    have hel : e < s.heap.objs.size := Heap.lt_size he
    have hil : it < s.heap.objs.size := by obtain ⟨_, q, _⟩ := hit; exact Heap.lt_size q
    have hi : i < its.toArray.size := by simpa using (List.getElem?_eq_some_iff.mp hu).1
    have D := Draws.tuple (prog := X.prog) (w := X.w) (A := X.A.in1) (I.ok.hd hc) it a hai its.toArray
    refine wpAny_pyNext_enum_itemD D he ⟨hit, p⟩ hi hne (by simp only [List.mem_cons, List.not_mem_nil, or_false, not_or]; exact ⟨hne, hea⟩) fun y h' tk hy ho hst hT hsz hk => ?_
    have ey : y = u := by
      have hy : its.toArray[i]? = some y := hy
      rw [List.getElem?_toArray, hu] at hy
      exact (Option.some.inj hy).symm
    subst ey
    refine ⟨_, rfl, wpAny_letOwnedTupleGo_enum (s := { s with heap := h', toks := tk + 1 }) ho fun h'' he' sb => ?_⟩
    have hT2 : h''.get? s.heap.objs.size = some { cls := .type "tuple", data := .seq #[.int i tk, y] } := (sb.2 _ (Nat.ne_of_gt hel)).trans hT
    have new : ObjOk X.prog X.w (upd H s.heap.objs.size (.tup [.int (i : Nat), x])) h'' s.heap.objs.size (.tup [.int (i : Nat), x]) :=
      ⟨by show 2 ≤ sizeLine; decide, [.int i tk, y], .cons ⟨_, rfl⟩ (.cons ru .nil), ⟨_, hT2, rfl, _, rfl⟩⟩
    have I1 : Inv X pins σ (upd H s.heap.objs.size (.tup [.int (i : Nat), x])) { s with heap := h'', toks := tk + 1 } :=
      I.turnedNew (ch := [e, it]) (fun b ob hb q => (sb.2 b (fun z => hb (by simp [z]))).trans (hk b ob (fun z => hb (by simp [z])) (fun z => hb (by simp [z])) q)) hf (Nat.le_refl _) new
    refine ⟨.ref s.heap.objs.size, _, I1, rfl, ⟨_, x, rfl, I.hok.fresh (Nat.le_refl _), rfl, fun ys hy => by rw [I.tuple_inj hy hq]; exact hx⟩, ⟨⟨y, ?_⟩, hst.1.at fun o q => (sb.2 it (Ne.symm hne)).trans q, hne, hea⟩, fun b hb => ?_⟩
    · have e1 : ((i + 1 : Nat) : Int) = (i : Int) + 1 := by omega
      rw [e1]; exact he'
    · have hb' : b < s.heap.objs.size := by
        have e' : b = e ∨ b = it := by simpa using hb
        rcases e' with z | z
        · rw [z]; exact hel
        · rw [z]; exact hil
      rw [upd_ne (Nat.ne_of_lt hb')]
      exact (hf b hb).1
  done := by
    intro X hP hw hK hc i pins s σ H E I hf st hg
    subst hP hw hK
    obtain ⟨⟨old, he⟩, hit, hne, hea⟩ := st
    obtain ⟨xs, hq, hx⟩ := hg
    obtain ⟨its, rv, p, hz⟩ := I.tuple hq
    obtain ⟨f0, f1, f2, f3, f4, f5⟩ := hf it (by simp)
    have hT : s.TypeIs (.ref e) "enumerate" := ⟨_, he, rfl⟩
    have hl := rv.length
    unfold pyNext
    refine wpAny_bind (wpAny_attempt (wpAny_callSpecial?_slot (name := Str.ofString "__next__") hT F.slot_enumerate_next (wpAny_call_entry F.slot_enumerate_next hT F.entry_enumerate_next ?_ (F.args_enumerate_next_1 _))))
    show wpAny _ _ (field (.ref e) 2 >>= _) _ _ _
    refine wpAny_bind (wpAny_field he rfl (x := .ref it) rfl ?_)
    refine wpAny_bind (wpAny_nextOf_tuple_end (I.ok.hd hc) hit p (by simp; omega) fun h' x he' hx' => ?_)
    obtain ⟨o, ho, hcl⟩ := hx'
    refine wpAny_bind (wpAny_isInstance (T := "StopIteration") (b := true) ⟨o, ho, hcl⟩ isSubtype_stop ?_)
    exact wpAny_pure ⟨rfl, I.turned (t' := s.toks) (fun b o hb q => he' b o hb q) f0 f1 f3 f4 f5⟩
  self := fun A i s Q E st h => let ⟨⟨_, he⟩, _⟩ := st; wpAny_pyIter_enum he h
def iEnumT (K : PySem.W.Frag) (ta : TA) : TI := fun σ H R => ta σ H fun vs H1 => ∃ a xs, vs = [.ref a] ∧ SqT K H1 a xs ∧ R (IteT K a) H1
theorem pi_enumT {X : Cx} {e : Expr} {ta : TA} {p pos tpos : Pos} {elts : List Expr} {kk : Nat} (hg : Gl X "enumerate") (hm : X.mg "enumerate" = none) (ha : PA X [e] ta) (hs : starEach [e] X.env = [(false, eval e X.env)] := by rfl) :
    PI X (.Tuple elts kk tpos) (.Call (.Name "enumerate" p) [e] [] pos) (iEnumT X.K ta) := by
  refine ⟨fun pins s σ H R I h => ?_⟩
  refine Call_ (ld_blt I hg hm boot_enumerate (PyProof.Rows.callWith_type1 (thn (ha.run pos pins s σ H _ I h) fun us s1 ⟨vs, H1, I1, r1, q1⟩ => ?_) hs rfl))
  obtain ⟨a, xs, ex, hq, q⟩ := q1
  subst ex
  cases r1 with
  | cons r rr =>
    cases rr
    cases r
    obtain ⟨its, rv, p', hz⟩ := I1.tuple hq
    have hlt : a < s1.heap.objs.size := by obtain ⟨o, ho, _⟩ := p'; exact Heap.lt_size ho
    refine call_enumT p' fun h' he hit hk => wpAny_pyIter_enum he ?_
    have I2 : Inv X pins σ H1 { s1 with heap := h' } := I1.kept (t' := s1.toks) hk
    refine ⟨s1.heap.objs.size + 1, [s1.heap.objs.size + 1, s1.heap.objs.size], _, _, H1, rfl, I2, turn_enumT a (s1.heap.objs.size + 1) s1.heap.objs.size (Nat.ne_of_lt hlt), ⟨⟨.none, he⟩, hit, Nat.succ_ne_self _, Nat.ne_of_gt (Nat.lt_succ_of_lt hlt)⟩, fun b hb => ?_, q⟩
    have hle : s1.heap.objs.size ≤ b := by
      have e' : b = s1.heap.objs.size + 1 ∨ b = s1.heap.objs.size := by simpa using hb
      rcases e' with z | z
      · rw [z]; exact Nat.le_add_right _ _
      · rw [z]; exact Nat.le_refl _
    exact I1.fpOk hle (I1.hok.fresh hle)
theorem walk_enumT {K : PySem.W.Frag} {a : Addr} {xs : List V} : Walk (IteT K a) xs.length (fun H => SqT K H a xs) (YPair (fun i => some (.int (i : Nat))) (fun i => xs[i]?)) := by
  refine ⟨fun i _ hi q => ⟨xs, xs[i], q, by simp [hi]⟩, fun _ q => ⟨xs, q, Nat.le_refl _⟩, fun i H v H' _ q y => ?_⟩
  obtain ⟨T, x, h1, h2, h3, h4⟩ := y
  exact ⟨T, .int (i : Nat), x, h1, h2, h3, rfl, h4 xs q⟩
end LB
end
section
set_option autoImplicit false
set_option Elab.async false
set_option linter.all false
set_option maxRecDepth 100000
set_option maxHeartbeats 4000000
/-! Judgements: statements, calls of defs, comprehensions, loops. -/
namespace LB
open PySem PySem.Spec PyProof.Rows L2 LamX

/-- one statement ends, the slots then hold δ' -/
def Dn1 (X : Cx) (T : List (Addr × Str)) (δ : List (Option PyData)) (st : Stmt) (δ' : List (Option PyData)) : Prop := ∀ σ H (D : Ends), σ.length = X.N.length → DS X.K H σ δ → Tabs T H → (∀ σ' H', σ'.length = X.N.length → Gw T H H' → DS X.K H' σ' δ' → D.nx σ' H') → svT X st D σ H
section
variable {X : Cx} {T : List (Addr × Str)} {e c : Expr} {es : List Expr} {st : Stmt} {sts rest thn els : List Stmt} {δ δ' δ₁ : List (Option PyData)} {d d' : PyData} {ds : List PyData} {pos : Pos}
/-! ### statements -/
theorem Dn1.of {ts : TS} (ps : PS X st ts) (h : ∀ σ H (D : Ends), σ.length = X.N.length → DS X.K H σ δ → Tabs T H → (∀ σ' H', σ'.length = X.N.length → Gw T H H' → DS X.K H' σ' δ' → D.nx σ' H') → ts D σ H) : Dn1 X T δ st δ' :=
  fun σ H D hl hd t q pins s I => ps.run pins s σ H D I (h σ H D hl hd t q)
theorem Dr.ret (h : De X T δ e d) : Dr X T δ (.Return (some e) pos :: rest) d :=
  Dr.of (pss_cons (ps_ret pe_ev) pss_never) fun σ H D hl hd t q => h.go hl hd t q
theorem Dr.next (h : Dn1 X T δ st δ₁) (hr : Dr X T δ₁ rest d) : Dr X T δ (st :: rest) d :=
  Dr.of (pss_cons ps_ev pss_ev) fun σ H D hl hd t q => h σ H { D with nx := ssT X rest D } hl hd t fun σ' H' hl' g hd' => hr σ' H' D hl' hd' g.2 fun v H2 g2 d2 => q v H2 (g.trans g2) d2
theorem Dn.nil : Dn X T δ [] δ := Dn.of pss_nil fun σ H D hl hd t q => q σ H hl (Gw.refl t) hd
theorem Dn.cons (h : Dn1 X T δ st δ₁) (hr : Dn X T δ₁ rest δ') : Dn X T δ (st :: rest) δ' :=
  Dn.of (pss_cons ps_ev pss_ev) fun σ H D hl hd t q => h σ H { D with nx := ssT X rest D } hl hd t fun σ' H' hl' g hd' => hr σ' H' D hl' hd' g.2 fun σ2 H2 hl2 g2 d2 => q σ2 H2 hl2 (g.trans g2) d2
theorem Dn1.weak (h : Dn1 X T δ st δ₁) (w : ∀ (i : Nat) (d : PyData), δ'[i]? = some (some d) → δ₁[i]? = some (some d)) : Dn1 X T δ st δ' :=
  fun σ H D hl hd t q => h σ H D hl hd t fun σ' H' hl' g hd' => q σ' H' hl' g (hd'.weak w)
theorem lt_of_ix {i : Nat} {x : Str} {σ : L2.St} (hi : X.N[i]? = some x) (hl : σ.length = X.N.length) : i < σ.length := by
  rw [hl]
  exact (List.getElem?_eq_some_iff.mp hi).1
theorem Dn1.set {i : Nat} {x : Str} {pos' : Pos} (hN : X.N.Nodup) (h : De X T δ e d) (hi : X.N[i]? = some x := by rfl) (hx : Loc X.env.scope x := by first | exact Or.inl rfl | exact Or.inr rfl) (hs : swapsWith e (some (.Name x pos')) pos.line X.env = pure false := by rfl)
    (hf : X.fn x = true ∨ X.env.scope.names.lookup x = some .local := by first | exact .inl rfl | exact .inr rfl) : Dn1 X T δ (.Assign [.Name x pos'] e pos) (δ.set i (some d)) :=
  Dn1.of (ps_set hN hi hx pe_ev hs hf) fun σ H D hl hd t q => h.go hl hd t fun v H1 g1 d1 => q _ _ (by rw [List.length_set]; exact hl) g1 ((hd.gw g1).set (lt_of_ix hi hl) d1)
theorem Dn1.expr (h : De X T δ e d) (hs : swapsWith e none pos.line X.env = pure false := by rfl) : Dn1 X T δ (.Expr e pos) δ :=
  Dn1.of (ps_expr pe_ev hs) fun σ H D hl hd t q => h.go hl hd t fun v H1 g1 d1 => q _ _ hl g1 (hd.gw g1)
theorem Dr.ifT (hc : Dt X T δ c true) (h : Dr X T δ thn d) : Dr X T δ (.If c thn els pos :: rest) d :=
  Dr.of (pss_cons (ps_if pt_ev pss_ev pss_never) pss_never) fun σ H D hl hd t q => hc.go hl hd t fun H1 g1 => by
    rw [if_pos rfl]
    exact h σ H1 _ hl (hd.gw g1) g1.2 fun v H2 g2 d2 => q v H2 (g1.trans g2) d2
theorem Dr.ifF (hc : Dt X T δ c false) (h : Dr X T δ rest d) : Dr X T δ (.If c thn [] pos :: rest) d :=
  Dr.of (pss_cons (ps_if pt_ev pss_never pss_nil) pss_ev) fun σ H D hl hd t q => hc.go hl hd t fun H1 g1 => by
    rw [if_neg (by decide)]
    exact h σ H1 D hl (hd.gw g1) g1.2 fun v H2 g2 d2 => q v H2 (g1.trans g2) d2
theorem Dn1.ifT (hc : Dt X T δ c true) (h : Dn X T δ thn δ') : Dn1 X T δ (.If c thn els pos) δ' :=
  Dn1.of (ps_if pt_ev pss_ev pss_never) fun σ H D hl hd t q => hc.go hl hd t fun H1 g1 => by
    rw [if_pos rfl]
    exact h σ H1 D hl (hd.gw g1) g1.2 fun σ2 H2 hl2 g2 d2 => q σ2 H2 hl2 (g1.trans g2) d2
theorem Dn1.ifF (hc : Dt X T δ c false) : Dn1 X T δ (.If c thn [] pos) δ :=
  Dn1.of (ps_if pt_ev pss_never pss_nil) fun σ H D hl hd t q => hc.go hl hd t fun H1 g1 => by
    rw [if_neg (by decide)]
    exact q σ H1 hl g1 (hd.gw g1)

/-! ### defs -/
/-- the promise of a def on data -/
def spR (T : List (Addr × Str)) (K : PySem.W.Frag) (R : List PyData → PyData → Prop) : Sp := fun vs H Q _ => ∃ ds d, DpAll K H vs ds ∧ Tabs T H ∧ R ds d ∧ ∀ v H', Gw T H H' → Dp K H' v d → Q v H'
/-- the def x stands there and keeps that promise -/
def Fd (P : Program) (w : World) (K : PySem.W.Frag) (mg : Str → Option Value) (base : Heap) (T : List (Addr × Str)) (k : Nat) (x : Str) (R : List PyData → PyData → Prop) : Prop :=
  ∃ f fd ps, mg x = some (.ref f) ∧ PySem.W.keepIn K (.ref f) = true ∧ Binds K fd ps [] ∧ FnOk P w K mg base CX0 k f fd ps (spR T K R)
theorem Fd.mono {P : Program} {w : World} {K : PySem.W.Frag} {mg : Str → Option Value} {base : Heap} {j k : Nat} {x : Str} {R : List PyData → PyData → Prop} (h : Fd P w K mg base T j x R) (hk : j ≤ k) : Fd P w K mg base T k x R := by
  obtain ⟨f, fd, ps, a, b, c, F⟩ := h
  exact ⟨f, fd, ps, a, b, c, F.mono hk⟩
theorem Fd.imp {P : Program} {w : World} {K : PySem.W.Frag} {mg : Str → Option Value} {base : Heap} {k : Nat} {x : Str} {R R' : List PyData → PyData → Prop} (h : Fd P w K mg base T k x R) (i : ∀ ds d, R' ds d → R ds d) : Fd P w K mg base T k x R' := by
  obtain ⟨f, fd, ps, a, b, c, F⟩ := h
  exact ⟨f, fd, ps, a, b, c, F.imp fun vs H Q E ⟨ds, d, h1, h2, h3, h4⟩ => ⟨ds, d, h1, h2, i _ _ h3, h4⟩⟩
theorem De.call {k : Nat} {x : Str} {p : Pos} {R : List PyData → PyData → Prop} (F : Fd X.prog X.w X.K X.mg X.base T k x R) (hr : Room k X.A) (ha : Da X T δ (e :: es) ds) (hR : R ds d) (hg : Gl X x := by rfl) (hdb : (x == ("__debug__" : Str)) = false := by decide)
    (he : starEach (e :: es) X.env = (false, eval e X.env) :: starEach es X.env := by rfl) (hpl : (backTo pos (starEach es X.env)).any (·.1) = false := by rfl) : De X T δ (.Call (.Name x p) (e :: es) [] pos) d := by
  obtain ⟨f, fd, ps, hm, hk, hb, F⟩ := F
  exact De.of (pe_call F hr hg hm hk hb .nil (pass0 (X := X)) pa_ev hdb he hpl) fun σ H Q hl hd t q => ha.go hl hd t fun vs H1 g1 dv => by
    rw [List.append_nil]
    exact ⟨ds, d, dv, g1.2, hR, fun v H2 g2 d2 => q v H2 (g1.trans g2) d2⟩
theorem start_len {N : List Str} {vs : List V} (h : vs.length ≤ N.length) : (L2.start N vs).length = N.length := by
  unfold L2.start
  rw [List.length_append, List.length_map, List.length_replicate]
  omega
theorem start_ds {K : PySem.W.Frag} {H : Hp} {N : List Str} {vs : List V} (dv : DpAll K H vs ds) (m : Nat) : DS K H (L2.start N vs) (ds.map some ++ List.replicate m none) := fun i d h => by
  have len := dpAll_len dv
  by_cases c : i < ds.length
  · rw [List.getElem?_append_left (by rw [List.length_map]; exact c), List.getElem?_map] at h
    obtain ⟨d0, hd0, e⟩ := Option.map_eq_some_iff.mp h
    have e := Option.some.inj e
    subst e
    obtain ⟨v, hv, dp⟩ := dpAll_get dv hd0
    refine ⟨v, ?_, dp⟩
    unfold L2.start
    rw [List.getElem?_append_left (by rw [List.length_map, len]; exact c), List.getElem?_map, hv]
    rfl
  · rw [List.getElem?_append_right (by rw [List.length_map]; omega), List.getElem?_replicate] at h
    split at h <;> cases h
/-- a def by its body -/
theorem Fd.mk {P : Program} {w : World} {K : PySem.W.Frag} {mg : Str → Option Value} {base : Heap} {k m : Nat} {x : Str} {st : Stmt} {f : Addr} {fd : FuncData} {N ps : List Str} {R : List PyData → PyData → Prop} (F : Fun K x x st f fd) (hm : mg x = some (.ref f)) (hb : Binds K fd ps [])
    (S : FnScope N ps (defScope st)) (len : ∀ ds d, R ds d → ds.length = ps.length)
    (body : ∀ (cdv : Value) (A : Around) (outer : List Env) (s : Shared) (H : Hp) (E : XK) (ds : List PyData) (d : PyData), Room k (A.deeper (envOfC x (defScope st) s.heap.objs.size f cdv)) → R ds d →
      Dr (cxOf CX0 P w K mg base N x (defScope st) f cdv A outer s H E).nox T (ds.map some ++ List.replicate m none) (defBody st) d) : Fd P w K mg base T (k + 1) x R := by
  refine ⟨f, fd, ps, hm, F.kp, hb, F.ok S (fun vs H Q E ⟨ds, d, dv, _, r, _⟩ => by rw [dpAll_len dv]; exact len ds d r) fun cdv A outer s H vs Q E hr ⟨ds, d, dv, t, r, q⟩ => ?_⟩
  have hl : vs.length ≤ N.length := by
    rw [dpAll_len dv, len ds d r]
    have := congrArg List.length S.pre
    rw [List.length_take] at this
    omega
  exact ⟨_, pss_ev, body cdv A outer s H E ds d hr r _ _ _ (start_len hl) (start_ds dv m) t q⟩
/-- a def that returns nothing -/
theorem Fd.mkN {P : Program} {w : World} {K : PySem.W.Frag} {mg : Str → Option Value} {base : Heap} {k m : Nat} {x : Str} {st : Stmt} {f : Addr} {fd : FuncData} {N ps : List Str} {R : List PyData → Prop} (F : Fun K x x st f fd) (hm : mg x = some (.ref f)) (hb : Binds K fd ps [])
    (S : FnScope N ps (defScope st)) (len : ∀ ds, R ds → ds.length = ps.length)
    (body : ∀ (cdv : Value) (A : Around) (outer : List Env) (s : Shared) (H : Hp) (E : XK) (ds : List PyData), Room k (A.deeper (envOfC x (defScope st) s.heap.objs.size f cdv)) → R ds →
      ∃ δ', Dn (cxOf CX0 P w K mg base N x (defScope st) f cdv A outer s H E).nox T (ds.map some ++ List.replicate m none) (defBody st) δ') : Fd P w K mg base T (k + 1) x (fun ds d => R ds ∧ d = .none) := by
  refine ⟨f, fd, ps, hm, F.kp, hb, F.ok S (fun vs H Q E ⟨ds, d, dv, _, r, _⟩ => by rw [dpAll_len dv]; exact len ds r.1) fun cdv A outer s H vs Q E hr ⟨ds, d, dv, t, ⟨r, e⟩, q⟩ => ?_⟩
  subst e
  have hl : vs.length ≤ N.length := by
    rw [dpAll_len dv, len ds r]
    have := congrArg List.length S.pre
    rw [List.length_take] at this
    omega
  obtain ⟨δ', h⟩ := body cdv A outer s H E ds hr r
  exact ⟨_, pss_ev, h _ _ _ (start_len hl) (start_ds dv m) t fun σ' H' _ g _ => q .non H' g .non⟩
end

/-! ### data without lists stay while a list of ours is written -/
mutual
def nl : PyData → Bool
  | .none => true
  | .bool _ => true
  | .int _ => true
  | .str _ => true
  | .tuple xs => nlAll xs
  | _ => false
def nlAll : List PyData → Bool
  | [] => true
  | x :: xs => nl x && nlAll xs
end
theorem nlAll_iff : ∀ xs : List PyData, nlAll xs = true ↔ ∀ x ∈ xs, nl x = true
  | [] => by simp [nlAll]
  | x :: xs => by rw [nlAll, Bool.and_eq_true, nlAll_iff xs]; simp
mutual
theorem nl_of_pl : ∀ d : PyData, pl d = true → nl d = true
  | .int _, _ => rfl
  | .str _, _ => rfl
  | .tuple xs, h => by simp only [nl]; exact nlAll_of_pl xs (by simpa [pl] using h)
  | .none, h => by cases h
  | .bool _, h => by cases h
  | .list _, h => by cases h
  | .dict _, h => by cases h
theorem nlAll_of_pl : ∀ xs : List PyData, plAll xs = true → nlAll xs = true
  | [], _ => rfl
  | x :: xs, h => by
    rw [plAll, Bool.and_eq_true] at h
    rw [nlAll, nl_of_pl x h.1, nlAll_of_pl xs h.2]
    rfl
end
/-- but for one list, all is as it was -/
def ButL (H H' : Hp) : Prop := ∀ b o, H b = some o → (∀ xs, o ≠ .lst xs) → H' b = some o
theorem ButL.upd {H : Hp} {D : Addr} {xs ys : List V} (h : H D = some (.lst xs)) : ButL H (upd H D (.lst ys)) := fun b o e n => by
  rw [upd_ne (fun z => by rw [z, h] at e; cases e; exact n xs rfl)]
  exact e
mutual
theorem Dp.nl {K : PySem.W.Frag} {H H' : Hp} (g : ButL H H') : ∀ (d : PyData) (v : V), LB.nl d = true → Dp K H v d → Dp K H' v d
  | .none, _, _, h => by cases h; exact .non
  | .bool b, _, _, h => by cases h; exact .bl b
  | .int i, _, _, h => by cases h; exact .int i
  | .str x, _, _, h => by cases h; exact .str x
  | .list ds, _, n, _ => by cases n
  | .tuple ds, _, n, h => by
    cases h with
    | tup hs ha =>
      refine .tup ?_ (DpAll.nl g ds _ (by simpa [LB.nl] using n) ha)
      rcases hs with (h | ⟨o, h⟩) | h
      · exact .inl (.inl (g _ _ h fun _ z => nomatch z))
      · exact .inl (.inr ⟨o, g _ _ h fun _ z => nomatch z⟩)
      · exact .inr h
  | .dict _, _, n, _ => by cases n
theorem DpAll.nl {K : PySem.W.Frag} {H H' : Hp} (g : ButL H H') : ∀ (ds : List PyData) (vs : List V), nlAll ds = true → DpAll K H vs ds → DpAll K H' vs ds
  | [], _, _, h => by cases h; exact .nil
  | d :: ds, _, n, h => by
    rw [nlAll, Bool.and_eq_true] at n
    cases h with
    | cons h1 h2 => exact .cons (Dp.nl g d _ n.1 h1) (DpAll.nl g ds _ n.2 h2)
end

/-! ### comprehensions -/
def bvT (X : Cx) (scope : Scope) (elt : Expr) : TE := fun σ H Q => ∀ (s : Shared) (H0 : Hp) (C : Addr) (cl : List (Str × Addr)) (fp : List Addr), evT (X.blk s H0 scope (compEnvC scope cl C X.env) fp) elt σ H Q
def btT (X : Cx) (scope : Scope) (t : Expr) : TT := fun σ H Q => ∀ (s : Shared) (H0 : Hp) (C : Addr) (cl : List (Str × Addr)) (fp : List Addr), tvT (X.blk s H0 scope (compEnvC scope cl C X.env) fp) t σ H Q
section
variable {X : Cx} {T : List (Addr × Str)} {δ : List (Option PyData)} {elt iter t : Expr} {scope : Scope} {i : Nat} {x : Str} {px pos : Pos} {ds : List PyData}
theorem wipe_ds {K : PySem.W.Frag} {H : Hp} {σ : L2.St} {v : V} {d : PyData} (hd : DS K H σ δ) (hi : i < σ.length) (hv : Dp K H v d) : DS K H ((wipe σ [i]).set i (some v)) (δ.set i (some d)) := by
  have e : (wipe σ [i]).set i (some v) = σ.set i (some v) := by
    show (σ.set i none).set i (some v) = _
    rw [List.set_set]
  rw [e]
  exact hd.set hi hv
/-- the block's part of a judgement on every element -/
abbrev EltOk (X : Cx) (T : List (Addr × Str)) (scope : Scope) (δ : List (Option PyData)) (e : Expr) (d : PyData) : Prop :=
  ∀ (s : Shared) (H : Hp) (C : Addr) (cl : List (Str × Addr)) (fp : List Addr), De (X.blk s H scope (compEnvC scope cl C X.env) fp) T δ e d
abbrev TstOk (X : Cx) (T : List (Addr × Str)) (scope : Scope) (δ : List (Option PyData)) (e : Expr) (b : Bool) : Prop :=
  ∀ (s : Shared) (H : Hp) (C : Addr) (cl : List (Str × Addr)) (fp : List Addr), Dt (X.blk s H scope (compEnvC scope cl C X.env) fp) T δ e b
abbrev PgOk (X : Cx) (scope : Scope) (tg : Expr) (g : TG) : Prop := ∀ (s : Shared) (H : Hp) (C : Addr) (cl : List (Str × Addr)) (fp : List Addr), PG (X.blk s H scope (compEnvC scope cl C X.env) fp) tg g
/-- a list that H does not know, written -/
theorem tabs_lst {T : List (Addr × Str)} {H : Hp} {D : Addr} {xs ys : List V} (t : Tabs T H) (h : H D = some (.lst xs)) : Tabs T (upd H D (.lst ys)) := by
  refine ⟨fun p hp => ?_, nd_upd t True.intro⟩
  obtain ⟨ps, a1, a2, a3⟩ := t.1 p hp
  have n1 : p.1 ≠ D := fun z => by
    rw [z, h] at a1
    cases a1
  refine ⟨ps, (upd_ne n1).trans a1, a2, fun pos cv hc => ?_⟩
  obtain ⟨c, e1, e2⟩ := a3 pos cv hc
  have n2 : c ≠ D := fun z => by
    rw [z, h] at e2
    cases e2
  exact ⟨c, e1, (upd_ne n2).trans e2⟩
theorem gw_lst {T : List (Addr × Str)} {H H1 : Hp} {D : Addr} {xs ys : List V} (hD : H D = none) (g : Gw T H H1) (h : H1 D = some (.lst xs)) : Gw T H (upd H1 D (.lst ys)) :=
  ⟨fun b o e n => (upd_ne (ne_of_none e hD)).trans (g.1 b o e n), tabs_lst g.2 h⟩
/-- what one turn's data are, by the walk's yield: as list items -/
theorem lc_data {J : It} {n : Nat} {G : Hp → Prop} {Y : Nat → Hp → V → Hp → Prop} (W : Walk J n G Y) {g : TG} {tt : TT} {te : TE} {vs : List Nat} {σ : L2.St} {H1 : Hp} {D : Addr} {Qd : Hp → Prop} {out : Nat → Option PyData} (hD : H1 D = none) (t1 : Tabs T H1) (hn : n ≤ 1000)
    (hG : ∀ H, Gw T H1 H → G H) (hnl : ∀ j d, out j = some d → nl d = true)
    (hs : ∀ j x H H', j < n → Gw T H1 H → Y j H x H' → g x (wipe σ vs) H' fun σ2 H2 => wipe σ2 vs = wipe σ vs ∧ tt σ2 H2 fun b H3 => Gw T H H3 ∧ b = (out j).isSome ∧ (b = true → te σ2 H3 fun y H4 => Gw T H3 H4 ∧ ∃ d, out j = some d ∧ Dp X.K H4 y d))
    (mono : ∀ (j : Nat) (x : V) (H' : Hp) (P P' : L2.St → Hp → Prop), (∀ σ H, P σ H → P' σ H) → g x (wipe σ vs) H' P → g x (wipe σ vs) H' P') (monoT : ∀ σ H (P P' : Bool → Hp → Prop), (∀ b H, P b H → P' b H) → tt σ H P → tt σ H P') (monoE : ∀ σ H (P P' : VK), (∀ v H, P v H → P' v H) → te σ H P → te σ H P')
    (hd : ∀ H vs, Gw T H1 H → H D = some (.lst vs) → DpAll X.K H vs ((List.range n).filterMap out) → Qd H) :
    ∃ W : Nat → Nat → Hp → Prop, (∃ m, W 0 m (upd H1 D (.lst []))) ∧ ∀ i m H, W i m H →
      (J.stop i H ∧ Qd H) ∨ (J.go i H ∧ ∃ Nx : Hp → Prop, (∀ H', Nx H' → ∃ m', m' < m ∧ W (i + 1) m' H') ∧ ∀ x H', J.yld i H x H' → g x (wipe σ vs) H' fun σ2 H2 => wipe σ2 vs = wipe σ vs ∧ tt σ2 H2 fun b H3 =>
        if b = true then te σ2 H3 fun y H4 => ∃ acc, H4 D = some (.lst acc) ∧ acc.length < sizeLine ∧ Nx (upd H4 D (.lst (acc ++ [y]))) else Nx H3) := by
  refine lc_it W (fun j H => Gw T H1 H ∧ ∃ acc, H D = some (.lst acc) ∧ DpAll X.K H acc ((List.range j).filterMap out)) ⟨(Gw.refl t1).upd hD, [], upd_same, .nil⟩ (fun j H _ p => hG H p.1) (fun j x H H' hj p y => ?_) fun H p => ?_
  · obtain ⟨g1, acc, hacc, dacc⟩ := p
    refine mono j x H' _ _ (fun σ2 H2 z => ⟨z.1, monoT σ2 H2 _ _ (fun b H3 z3 => ?_) z.2⟩) (hs j x H H' hj g1 y)
    obtain ⟨g3, eb, q⟩ := z3
    have er : (List.range (j + 1)).filterMap out = (List.range j).filterMap out ++ (out j).toList := by
      rw [List.range_succ, List.filterMap_append]
      cases ho : out j <;> simp [ho]
    by_cases hb : b = true
    · rw [if_pos hb]
      refine monoE σ2 H3 _ _ (fun yv H4 z4 => ?_) (q hb)
      obtain ⟨g4, d, hd, dd⟩ := z4
      have h4 : H4 D = some (.lst acc) := (g3.trans g4).lst hacc
      have bl : ButL H4 (upd H4 D (.lst (acc ++ [yv]))) := ButL.upd h4
      have nls : nlAll ((List.range j).filterMap out) = true := by
        rw [nlAll_iff]
        intro z hz
        obtain ⟨k, _, hk⟩ := List.mem_filterMap.mp hz
        exact hnl k z hk
      have lenacc : acc.length ≤ j := by
        rw [dpAll_len dacc]
        exact Nat.le_trans (List.length_filterMap_le _ _) (by rw [List.length_range]; exact Nat.le_refl _)
      refine ⟨acc, h4, by rw [sizeLine_eq]; omega, ?_, acc ++ [yv], upd_same, ?_⟩
      · exact gw_lst hD (g1.trans (g3.trans g4)) h4
      · rw [er, hd]
        exact dpAll_snoc (DpAll.nl bl _ _ nls (DpAll.gw (g3.trans g4) _ _ dacc)) (Dp.nl bl _ _ (hnl j d hd) dd)
    · rw [if_neg hb]
      have ho : out j = none := by
        rw [eb] at hb
        cases h : out j with
        | none => rfl
        | some d => rw [h] at hb; exact absurd rfl hb
      refine ⟨g1.trans g3, acc, g3.lst hacc, ?_⟩
      rw [er, ho]
      simp only [Option.toList_none, List.append_nil]
      exact DpAll.gw g3 _ _ dacc
  · obtain ⟨g1, acc, hacc, dacc⟩ := p
    exact hd H acc g1 hacc dacc
end
end LB
end
section
set_option autoImplicit false
set_option Elab.async false
set_option linter.all false
set_option maxRecDepth 100000
set_option maxHeartbeats 4000000
/-! Judgements: comprehensions and loops over lists, tuples, enumerate, ranges. -/
namespace LB
open PySem PySem.Spec PyProof.Rows L2 LamX

theorem range_bind {α β : Type} (g : α → Option β) : ∀ ds : List α, (List.range ds.length).filterMap (fun j => ds[j]?.bind g) = ds.filterMap g := by
  have key : ∀ (ds : List α) (n : Nat), n ≤ ds.length → (List.range n).filterMap (fun j => ds[j]?.bind g) = (ds.take n).filterMap g := by
    intro ds n
    induction n with
    | zero => intro _; simp
    | succ n ih =>
      intro hn
      rw [List.range_succ, List.filterMap_append, ih (by omega), List.take_add_one, List.filterMap_append]
      congr 1
      cases e : ds[n]? with
      | none => simp [e]
      | some d => simp [e, List.filterMap]
  intro ds
  rw [key ds _ (Nat.le_refl _), List.take_of_length_le (Nat.le_refl _)]
section
variable {X : Cx} {T : List (Addr × Str)} {δ : List (Option PyData)} {elt iter t : Expr} {ifs : List Expr} {scope : Scope} {i : Nat} {x : Str} {px pos : Pos} {ds : List PyData} {g : PyData → Option PyData} {tt : TT}
/-- the tests of a comprehension, on data -/
structure Ifs (X : Cx) (T : List (Addr × Str)) (scope : Scope) (ifs : List Expr) (tt : TT) (ok : List (Option PyData) → Bool → Prop) : Prop where
  pts : ∀ (s : Shared) (H : Hp) (C : Addr) (cl : List (Str × Addr)) (fp : List Addr), PTs (X.blk s H scope (compEnvC scope cl C X.env) fp) ifs tt
  mono : ∀ σ H (P P' : Bool → Hp → Prop), (∀ b H, P b H → P' b H) → tt σ H P → tt σ H P'
  on : ∀ δ b, ok δ b → ∀ σ H, σ.length = X.N.length → DS X.K H σ δ → Tabs T H → tt σ H fun b' H' => b' = b ∧ Gw T H H'
theorem ifs_nil : Ifs X T scope [] tYes (fun _ b => b = true) where
  pts := fun _ _ _ _ _ => pts_nil
  mono := fun σ H P P' h z => h _ _ z
  on := fun δ b e σ H hl hd t => ⟨e.symm, Gw.refl t⟩
theorem ifs_one : Ifs X T scope [t] (btT X scope t) (fun δ b => TstOk X T scope δ t b) where
  pts := fun s H C cl fp => pts_one ⟨fun pins s1 σ H1 Q I h => h s H C cl fp pins s1 I⟩
  mono := fun σ H P P' h z s H0 C cl fp => tvT.mono (z s H0 C cl fp) h
  on := fun δ b h σ H hl hd t s H0 C cl fp => h s H0 C cl fp σ H hl hd t
theorem wipe2 {σ : L2.St} {i : Nat} {v : V} : wipe ((wipe σ [i]).set i (some v)) [i] = wipe σ [i] := by
  show ((σ.set i none).set i (some v)).set i none = σ.set i none
  rw [List.set_set, List.set_set]
theorem wipe_len {σ : L2.St} {i : Nat} {v : V} : ((wipe σ [i]).set i (some v)).length = σ.length := by
  rw [List.length_set, wipe_length]
/-- one turn over items by place -/
theorem lc_turn {xs : List V} {σ : L2.St} {H1 H : Hp} {ok : List (Option PyData) → Bool → Prop} (I : Ifs X T scope ifs tt ok) (hi : X.N[i]? = some x) (hl : σ.length = X.N.length) (hd : DS X.K H1 σ δ) (hx : DpAll X.K H1 xs ds) (g1 : Gw T H1 H)
    (htest : ∀ d ∈ ds, ok (δ.set i (some d)) (g d).isSome) (helt : ∀ d ∈ ds, ∀ e, g d = some e → EltOk X T scope (δ.set i (some d)) elt e) {j : Nat} {y : V} (hy : xs[j]? = some y) :
    gName i y (wipe σ [i]) H fun σ2 H2 => wipe σ2 [i] = wipe σ [i] ∧ tt σ2 H2 fun b H3 => Gw T H H3 ∧ b = (ds[j]?.bind g).isSome ∧ (b = true → bvT X scope elt σ2 H3 fun z H4 => Gw T H3 H4 ∧ ∃ d, ds[j]?.bind g = some d ∧ Dp X.K H4 z d) := by
  obtain ⟨d, hdj, dp⟩ : ∃ d, ds[j]? = some d ∧ Dp X.K H1 y d := by
    have hj := (List.getElem?_eq_some_iff.mp hy).1
    have hj2 : j < ds.length := by rw [← dpAll_len hx]; exact hj
    obtain ⟨v, hv, dp⟩ := dpAll_get hx (List.getElem?_eq_getElem hj2)
    rw [hy] at hv
    cases hv
    exact ⟨_, List.getElem?_eq_getElem hj2, dp⟩
  have md := List.mem_of_getElem? hdj
  have len2 : ((wipe σ [i]).set i (some y)).length = X.N.length := by rw [wipe_len]; exact hl
  have ds2 : DS X.K H ((wipe σ [i]).set i (some y)) (δ.set i (some d)) := wipe_ds (hd.gw g1) (lt_of_ix hi hl) (Dp.gw g1 _ _ dp)
  refine ⟨wipe2, I.mono _ _ _ _ (fun b H3 z => ?_) (I.on _ _ (htest d md) _ H len2 ds2 g1.2)⟩
  obtain ⟨eb, g3⟩ := z
  have e0 : ds[j]?.bind g = g d := by rw [hdj]; rfl
  refine ⟨g3, by rw [e0]; exact eb, fun hb s H0 C cl fp => ?_⟩
  rw [hb] at eb
  obtain ⟨e, he⟩ := Option.isSome_iff_exists.mp eb.symm
  exact (helt d md e he s H0 C cl fp).go len2 (ds2.gw g3) g3.2 fun v H4 g4 d4 => ⟨g4, e, by rw [e0]; exact he, d4⟩
theorem bvT_mono {scope : Scope} {elt : Expr} (σ : L2.St) (H : Hp) (P P' : VK) (h : ∀ v H, P v H → P' v H) (z : bvT X scope elt σ H P) : bvT X scope elt σ H P' := fun s H0 C cl fp => evT.mono (z s H0 C cl fp) h
theorem De.lcL {ok : List (Option PyData) → Bool → Prop} (hc : X.calm = true) (hN : X.N.Nodup) (hi : De X T δ iter (.list ds)) (I : Ifs X T scope ifs tt ok) (hn : ds.length ≤ 1000) (hnl : ∀ d ∈ ds, ∀ e, g d = some e → nl e = true)
    (htest : ∀ d ∈ ds, ok (δ.set i (some d)) (g d).isSome) (helt : ∀ d ∈ ds, ∀ e, g d = some e → EltOk X T scope (δ.set i (some d)) elt e) (bk : BlkOk X.N X.env.scope scope [(x, i)]) (hx : X.N[i]? = some x) (hg : PgOk X scope (.Name x px) (gName i))
    (hs : ∀ x, foldedSetIterable iter X.env x = pure x := by intro _; rfl) : De X T δ (.ListComp elt [⟨.Name x px, iter, ifs, 0⟩] scope pos) (.list (ds.filterMap g)) := by
  refine De.of (pe_lc (te := bvT X scope elt) hc hN (pi_list pe_ev) bk hg I.pts (fun s H C cl fp => ⟨fun pins s1 σ H1 Q J h => h s H C cl fp pins s1 J⟩) hs) fun σ H Q hl hd t q => hi.go hl hd t fun v H1 g1 d1 => ?_
  cases d1 with
  | @lst a xs _ hq hv =>
    refine ⟨a, rfl, ⟨xs, hq⟩, fun D hD => lc_data (X := X) (out := fun j => ds[j]?.bind g) walk_list hD g1.2 (by rw [dpAll_len hv]; exact hn) (fun H g => SqL.gw hq g) (fun j d h => ?_) (fun j y H2 H' hj g2 z => ?_) (fun j y H' P P' h z => h _ _ z) I.mono (bvT_mono) fun H2 vs g2 h2 dv => ?_⟩
    · obtain ⟨d0, h0, h1⟩ := Option.bind_eq_some_iff.mp h
      exact hnl d0 (List.mem_of_getElem? h0) d h1
    · obtain ⟨rfl, hy⟩ := z
      exact lc_turn I hx hl (hd.gw g1) hv g2 htest helt hy
    · rw [dpAll_len hv, range_bind] at dv
      exact q _ _ (g1.trans g2) (.lst (SqL.of h2) dv)
theorem De.lcT {ok : List (Option PyData) → Bool → Prop} (hc : X.calm = true) (hN : X.N.Nodup) (hi : De X T δ iter (.tuple ds)) (I : Ifs X T scope ifs tt ok) (hn : ds.length ≤ 1000) (hnl : ∀ d ∈ ds, ∀ e, g d = some e → nl e = true)
    (htest : ∀ d ∈ ds, ok (δ.set i (some d)) (g d).isSome) (helt : ∀ d ∈ ds, ∀ e, g d = some e → EltOk X T scope (δ.set i (some d)) elt e) (bk : BlkOk X.N X.env.scope scope [(x, i)]) (hx : X.N[i]? = some x) (hg : PgOk X scope (.Name x px) (gName i))
    (hs : ∀ x, foldedSetIterable iter X.env x = pure x := by intro _; rfl) : De X T δ (.ListComp elt [⟨.Name x px, iter, ifs, 0⟩] scope pos) (.list (ds.filterMap g)) := by
  refine De.of (pe_lc (te := bvT X scope elt) hc hN (pi_tup pe_ev) bk hg I.pts (fun s H C cl fp => ⟨fun pins s1 σ H1 Q J h => h s H C cl fp pins s1 J⟩) hs) fun σ H Q hl hd t q => hi.go hl hd t fun v H1 g1 d1 => ?_
  cases d1 with
  | @tup a xs _ hq hv =>
    refine ⟨a, rfl, ⟨xs, hq⟩, fun D hD => lc_data (X := X) (out := fun j => ds[j]?.bind g) walk_tup hD g1.2 (by rw [dpAll_len hv]; exact hn) (fun H g => SqT.gw hq g) (fun j d h => ?_) (fun j y H2 H' hj g2 z => ?_) (fun j y H' P P' h z => h _ _ z) I.mono (bvT_mono) fun H2 vs g2 h2 dv => ?_⟩
    · obtain ⟨d0, h0, h1⟩ := Option.bind_eq_some_iff.mp h
      exact hnl d0 (List.mem_of_getElem? h0) d h1
    · obtain ⟨rfl, hy⟩ := z
      exact lc_turn I hx hl (hd.gw g1) hv g2 htest helt hy
    · rw [dpAll_len hv, range_bind] at dv
      exact q _ _ (g1.trans g2) (.lst (SqL.of h2) dv)
/-- no tests: each element mapped -/
theorem De.mapL {f : PyData → PyData} (hc : X.calm = true) (hN : X.N.Nodup) (hi : De X T δ iter (.list ds)) (hn : ds.length ≤ 1000) (hnl : ∀ d ∈ ds, nl (f d) = true) (helt : ∀ d ∈ ds, EltOk X T scope (δ.set i (some d)) elt (f d)) (bk : BlkOk X.N X.env.scope scope [(x, i)]) (hx : X.N[i]? = some x) (hg : PgOk X scope (.Name x px) (gName i))
    (hs : ∀ x, foldedSetIterable iter X.env x = pure x := by intro _; rfl) : De X T δ (.ListComp elt [⟨.Name x px, iter, [], 0⟩] scope pos) (.list (ds.map f)) := by
  have q := De.lcL (g := fun d => some (f d)) (pos := pos) (px := px) hc hN hi ifs_nil hn (fun d hd e h => by rw [← Option.some.inj h]; exact hnl d hd) (fun d hd => rfl) (fun d hd e h => by rw [← Option.some.inj h]; exact helt d hd) bk hx hg hs
  rw [List.filterMap_eq_map'] at q
  exact q
theorem De.mapT {f : PyData → PyData} (hc : X.calm = true) (hN : X.N.Nodup) (hi : De X T δ iter (.tuple ds)) (hn : ds.length ≤ 1000) (hnl : ∀ d ∈ ds, nl (f d) = true) (helt : ∀ d ∈ ds, EltOk X T scope (δ.set i (some d)) elt (f d)) (bk : BlkOk X.N X.env.scope scope [(x, i)]) (hx : X.N[i]? = some x) (hg : PgOk X scope (.Name x px) (gName i))
    (hs : ∀ x, foldedSetIterable iter X.env x = pure x := by intro _; rfl) : De X T δ (.ListComp elt [⟨.Name x px, iter, [], 0⟩] scope pos) (.list (ds.map f)) := by
  have q := De.lcT (g := fun d => some (f d)) (pos := pos) (px := px) hc hN hi ifs_nil hn (fun d hd e h => by rw [← Option.some.inj h]; exact hnl d hd) (fun d hd => rfl) (fun d hd e h => by rw [← Option.some.inj h]; exact helt d hd) bk hx hg hs
  rw [List.filterMap_eq_map'] at q
  exact q
end
/-! ### calls of built-ins -/
section
variable {X : Cx} {T : List (Addr × Str)} {δ : List (Option PyData)} {e : Expr} {es : List Expr} {d : PyData} {ds : List PyData} {p pos : Pos} {x : Str}
/-- a call of a built-in function by a rule on values -/
theorem De.blt {id : String} {r : List V → Hp → VK → Prop} (hc : CallR X (.builtin id) r) (hm : X.mg x = none) (hv : bootBuiltins x = some (.builtin id)) (ha : Da X T δ (e :: es) ds)
    (h : ∀ vs H Q, DpAll X.K H vs ds → Tabs T H → (∀ v H', Gw T H H' → Dp X.K H' v d → Q v H') → r vs H Q) (hg : Gl X x := by rfl) (hn : x ≠ "__name__" := by decide) (hdb : (x == ("__debug__" : Str)) = false := by decide)
    (he : starEach (e :: es) X.env = (false, eval e X.env) :: starEach es X.env := by rfl) (hpl : (backTo pos (starEach es X.env)).any (·.1) = false := by rfl) : De X T δ (.Call (.Name x p) (e :: es) [] pos) d :=
  De.of (pe_callB hc hg hm hv pa_ev hn hdb he hpl) fun σ H Q hl hd t q => ha.go hl hd t fun vs H1 g1 dv => h vs H1 Q dv g1.2 fun v H2 g2 d2 => q v H2 (g1.trans g2) d2
theorem De.ty {id : String} {r : List V → Hp → VK → Prop} (hc : CallR X (.type id) r) (hm : X.mg x = none) (hv : bootBuiltins x = some (.type id)) (ha : Da X T δ (e :: es) ds)
    (h : ∀ vs H Q, DpAll X.K H vs ds → Tabs T H → (∀ v H', Gw T H H' → Dp X.K H' v d → Q v H') → r vs H Q) (hg : Gl X x := by rfl) (hn : x ≠ "__name__" := by decide) (hdb : (x == ("__debug__" : Str)) = false := by decide)
    (he : starEach (e :: es) X.env = (false, eval e X.env) :: starEach es X.env := by rfl) (hpl : (backTo pos (starEach es X.env)).any (·.1) = false := by rfl) : De X T δ (.Call (.Name x p) (e :: es) [] pos) d :=
  De.of (pe_callTy hc hg hm hv pa_ev hn hdb he hpl) fun σ H Q hl hd t q => ha.go hl hd t fun vs H1 g1 dv => h vs H1 Q dv g1.2 fun v H2 g2 d2 => q v H2 (g1.trans g2) d2
theorem dp1 {K : PySem.W.Frag} {H : Hp} {vs : List V} (h : DpAll K H vs [d]) : ∃ v, vs = [v] ∧ Dp K H v d := by
  cases h with
  | cons a b => cases b; exact ⟨_, rfl, a⟩
theorem dp2 {K : PySem.W.Frag} {H : Hp} {vs : List V} {d2 : PyData} (h : DpAll K H vs [d, d2]) : ∃ v w, vs = [v, w] ∧ Dp K H v d ∧ Dp K H w d2 := by
  cases h with
  | cons a b =>
    obtain ⟨w, rfl, c⟩ := dp1 b
    exact ⟨_, w, rfl, a, c⟩
end
end LB
end
section
set_option autoImplicit false
set_option Elab.async false
set_option linter.all false
set_option maxRecDepth 100000
set_option maxHeartbeats 4000000
/-! Judgements: the built-ins of this program. -/
namespace LB
open PySem PySem.Spec PyProof.Rows L2 LamX

/-- the type's name of data -/
def tyN : PyData → String
  | .none => "NoneType"
  | .bool _ => "bool"
  | .int _ => "int"
  | .str _ => "str"
  | .list _ => "list"
  | .tuple _ => "tuple"
  | .dict _ => "dict"
theorem ty_of {K : PySem.W.Frag} {H : Hp} {v : V} {d : PyData} (h : Dp K H v d) : TyX K H v (.type (tyN d)) := by
  cases h with
  | non => exact .base .non
  | bl b => exact .base (.bl b)
  | int i => exact .base (.int i)
  | str x => exact .base (.str x)
  | lst hs _ =>
    rcases hs with (h | ⟨o, h⟩) | ⟨o, its, n, hk, hc, _⟩
    · exact .base (.lst h)
    · exact .base (.frz h)
    · exact .kList hk hc
  | tup hs _ =>
    rcases hs with (h | ⟨o, h⟩) | ⟨o, its, n, hk, hc, _⟩
    · exact .base (.tup h)
    · exact .fTuple h
    · exact .kTuple hk hc
/-- the built-ins' names are not the module's -/
def Free (mg : Str → Option Value) : Prop := ∀ x : Str, x ∈ ([("len" : Str), "isinstance", "all", "any", "set", "enumerate", "max", "sum", "tuple", "list", "sorted", "range", "min", "int", "abs", "str", "bool"] : List Str) → mg x = none
section
variable {X : Cx} {T : List (Addr × Str)} {δ : List (Option PyData)} {a b e : Expr} {es : List Expr} {d d2 : PyData} {ds : List PyData} {p p2 q2 pos : Pos} {x : Str}
theorem De.len (fr : Free X.mg) (h : De X T δ e (.tuple ds)) (hg : Gl X "len" := by rfl) (he : starEach [e] X.env = (false, eval e X.env) :: starEach [] X.env := by rfl) : De X T δ (.Call (.Name "len" p) [e] [] pos) (.int (ds.length : Nat)) :=
  De.blt call_len_seq (fr _ (by decide)) PySem.boot_len (Da.cons h Da.nil he) (fun vs H Q dv t q => by
    obtain ⟨v, rfl, d1⟩ := dp1 dv
    cases d1 with
    | tup hs hv => exact ⟨_, _, rfl, .inr hs, by rw [dpAll_len hv]; exact q _ _ (Gw.refl t) (.int _)⟩) hg (by decide) (by decide) he
theorem De.lenL (fr : Free X.mg) (h : De X T δ e (.list ds)) (hg : Gl X "len" := by rfl) (he : starEach [e] X.env = (false, eval e X.env) :: starEach [] X.env := by rfl) : De X T δ (.Call (.Name "len" p) [e] [] pos) (.int (ds.length : Nat)) :=
  De.blt call_len_seq (fr _ (by decide)) PySem.boot_len (Da.cons h Da.nil he) (fun vs H Q dv t q => by
    obtain ⟨v, rfl, d1⟩ := dp1 dv
    cases d1 with
    | lst hs hv => exact ⟨_, _, rfl, .inl hs, by rw [dpAll_len hv]; exact q _ _ (Gw.refl t) (.int _)⟩) hg (by decide) (by decide) he
theorem De.lenS {z : Str} (fr : Free X.mg) (h : De X T δ e (.str z)) (hz : z.length ≤ sizeLine) (hg : Gl X "len" := by rfl) (he : starEach [e] X.env = (false, eval e X.env) :: starEach [] X.env := by rfl) : De X T δ (.Call (.Name "len" p) [e] [] pos) (.int z.length) :=
  De.blt call_len_str (fr _ (by decide)) PySem.boot_len (Da.cons h Da.nil he) (fun vs H Q dv t q => by
    obtain ⟨v, rfl, d1⟩ := dp1 dv
    cases d1
    exact ⟨z, rfl, hz, q _ _ (Gw.refl t) (.int _)⟩) hg (by decide) (by decide) he
theorem bools_of {K : PySem.W.Frag} {H : Hp} : ∀ {bs : List Bool} {vs : List V}, DpAll K H vs (bs.map .bool) → vs = bs.map V.bl
  | [], _, h => by cases h; rfl
  | b :: bs, _, h => by
    have h : DpAll K H _ (.bool b :: bs.map .bool) := h
    cases h with
    | cons h1 t =>
      cases h1
      rw [bools_of t]
      rfl
theorem ints_of {K : PySem.W.Frag} {H : Hp} : ∀ {ns : List Int} {vs : List V}, DpAll K H vs (ns.map .int) → vs = ns.map V.int
  | [], _, h => by cases h; rfl
  | b :: bs, _, h => by
    have h : DpAll K H _ (.int b :: bs.map .int) := h
    cases h with
    | cons h1 t =>
      cases h1
      rw [ints_of t]
      rfl
theorem ints_back {K : PySem.W.Frag} {H : Hp} : ∀ (ns : List Int), DpAll K H (ns.map V.int) (ns.map .int)
  | [] => .nil
  | n :: ns => .cons (.int n) (ints_back ns)
theorem De.all {bs : List Bool} (fr : Free X.mg) (hc : X.calm = true) (h : De X T δ e (.list (bs.map .bool))) (hg : Gl X "all" := by rfl) (he : starEach [e] X.env = (false, eval e X.env) :: starEach [] X.env := by rfl) : De X T δ (.Call (.Name "all" p) [e] [] pos) (.bool (bs.all id)) :=
  De.blt (cr_all hc) (fr _ (by decide)) boot_all (Da.cons h Da.nil he) (fun vs H Q dv t q => by
    obtain ⟨v, rfl, d1⟩ := dp1 dv
    cases d1 with
    | lst hs hv => exact ⟨_, bs, rfl, by rw [← bools_of hv]; exact hs, q _ _ (Gw.refl t) (.bl _)⟩) hg (by decide) (by decide) he
theorem De.any {bs : List Bool} (fr : Free X.mg) (hc : X.calm = true) (h : De X T δ e (.list (bs.map .bool))) (hg : Gl X "any" := by rfl) (he : starEach [e] X.env = (false, eval e X.env) :: starEach [] X.env := by rfl) : De X T δ (.Call (.Name "any" p) [e] [] pos) (.bool (bs.any id)) :=
  De.blt (cr_any hc) (fr _ (by decide)) boot_any (Da.cons h Da.nil he) (fun vs H Q dv t q => by
    obtain ⟨v, rfl, d1⟩ := dp1 dv
    cases d1 with
    | lst hs hv => exact ⟨_, bs, rfl, by rw [← bools_of hv]; exact hs, q _ _ (Gw.refl t) (.bl _)⟩) hg (by decide) (by decide) he
theorem De.sum {ns : List Int} (fr : Free X.mg) (hc : X.calm = true) (h : De X T δ e (.list (ns.map .int))) (hg : Gl X "sum" := by rfl) (he : starEach [e] X.env = (false, eval e X.env) :: starEach [] X.env := by rfl) : De X T δ (.Call (.Name "sum" p) [e] [] pos) (.int ns.sum) :=
  De.blt (cr_sum hc) (fr _ (by decide)) boot_sum (Da.cons h Da.nil he) (fun vs H Q dv t q => by
    obtain ⟨v, rfl, d1⟩ := dp1 dv
    cases d1 with
    | lst hs hv => exact ⟨_, ns, rfl, by rw [← ints_of hv]; exact hs, q _ _ (Gw.refl t) (.int _)⟩) hg (by decide) (by decide) he
theorem De.max {ns : List Int} {m : Int} (fr : Free X.mg) (hc : X.calm = true) (h : De X T δ e (.list (ns.map .int))) (hm : m ∈ ns) (hmax : ∀ y ∈ ns, y ≤ m) (hg : Gl X "max" := by rfl) (he : starEach [e] X.env = (false, eval e X.env) :: starEach [] X.env := by rfl) : De X T δ (.Call (.Name "max" p) [e] [] pos) (.int m) :=
  De.blt (cr_max hc) (fr _ (by decide)) boot_max (Da.cons h Da.nil he) (fun vs H Q dv t q => by
    obtain ⟨v, rfl, d1⟩ := dp1 dv
    cases d1 with
    | lst hs hv => exact ⟨_, ns, rfl, by rw [← ints_of hv]; exact hs, List.length_pos_of_mem hm, fun m' h1 h2 => by
        have e : m' = m := Int.le_antisymm (hmax m' h1) (h2 m hm)
        rw [e]
        exact q _ _ (Gw.refl t) (.int _)⟩) hg (by decide) (by decide) he
/-- tuple(list) -/
theorem call_tupN : CallR X (.type "tuple") (fun xs H Q => ∃ p ys, xs = [.ref p] ∧ SqL X.K H p ys ∧ ∀ (l : Addr) (o : Obj), H l = none → o.dict = none → Q (.ref l) (upd H l (.frz o (.tup ys)))) := by
  rintro pins s σ H _ us Q I r ⟨p, ys, rfl, hq, q⟩
  obtain ⟨u, rfl, rx⟩ := vals1 r
  cases rx
  obtain ⟨its, r2, pl, hz⟩ := I.list hq
  refine call_tuple_list pl.isList (fun h2 kp => ?_) (by rw [List.size_toArray, ← r2.length]; exact hz)
  have I1 : Inv X pins σ H { s with heap := h2 } := I.kept (t' := s.toks) kp
  have J := laid_N (s := { s with heap := h2 }) (tk := s.toks) (h2 := h2.push { cls := .type "tuple", data := .seq its.toArray }) I1 (fun b o e => Heap.get?_push_of_some _ e) (Nat.le_refl _) hz r2 (Heap.get?_push_size _ rfl)
  exact ⟨.ref h2.objs.size, _, J, rfl, q _ _ (I1.hok.fresh (Nat.le_refl _)) rfl⟩
theorem De.tupleOf (fr : Free X.mg) (h : De X T δ e (.list ds)) (hg : Gl X "tuple" := by rfl) (he : starEach [e] X.env = (false, eval e X.env) :: starEach [] X.env := by rfl) : De X T δ (.Call (.Name "tuple" p) [e] [] pos) (.tuple ds) :=
  De.ty call_tupN (fr _ (by decide)) boot_tuple (Da.cons h Da.nil he) (fun vs H Q dv t q => by
    obtain ⟨v, rfl, d1⟩ := dp1 dv
    cases d1 with
    | lst hs hv => exact ⟨_, _, rfl, hs, fun l o hl nd => q _ _ (lay_tup hl nd hv t).1 (lay_tup hl nd hv t).2⟩) hg (by decide) (by decide) he
/-- list(tuple), list(list) -/
theorem De.listOf (fr : Free X.mg) (h : De X T δ e (.tuple ds)) (hg : Gl X "list" := by rfl) (he : starEach [e] X.env = (false, eval e X.env) :: starEach [] X.env := by rfl) : De X T δ (.Call (.Name "list" p) [e] [] pos) (.list ds) :=
  De.ty call_list_of (fr _ (by decide)) boot_list (Da.cons h Da.nil he) (fun vs H Q dv t q => by
    obtain ⟨v, rfl, d1⟩ := dp1 dv
    cases d1 with
    | tup hs hv => exact ⟨_, _, rfl, .inr hs, fun l hl => q _ _ (lay_lst hl hv t).1 (lay_lst hl hv t).2⟩) hg (by decide) (by decide) he
/-- isinstance(e, ty) -/
theorem De.isi {n : String} {y : Str} {k : Bool} (fr : Free X.mg) (h : De X T δ e d) (hy : y ∈ ([("str" : Str), "int", "bool", "tuple", "list"] : List Str)) (hv : bootBuiltins y = some (.type n)) (hk : PySem.W.kitOne X.K (.type (tyN d)) (.type n) = some k)
    (hg : Gl X "isinstance" := by rfl) (hgy : Gl X y := by rfl) (hny : y ≠ "__name__" := by decide) (hdy : (y == ("__debug__" : Str)) = false := by decide) (he : starEach [e, .Name y p2] X.env = (false, eval e X.env) :: starEach [.Name y p2] X.env := by rfl) (he2 : starEach [.Name y p2] X.env = (false, eval (.Name y p2) X.env) :: starEach [] X.env := by rfl)
    (hpl : (backTo pos (starEach [.Name y p2] X.env)).any (·.1) = false := by rfl) : De X T δ (.Call (.Name "isinstance" p) [e, .Name y p2] [] pos) (.bool k) := by
  have hmy : X.mg y = none := fr y (by
    simp only [List.mem_cons, List.not_mem_nil, or_false] at hy ⊢
    rcases hy with h | h | h | h | h <;> simp [h])
  exact De.of (pe_callB call_isi hg (fr _ (by decide)) boot_isinstance (pa_cons pe_ev (pa_cons (pe_bltn (v := .ty n) hgy hmy hv rfl hny hdy) pa_nil he2) he) (by decide) (by decide) he hpl) fun σ H Q hl hd t q => h.go hl hd t fun v H1 g1 d1 =>
    ⟨v, .ty n, _, .type n, k, rfl, .ty n, ty_of d1, hk, q _ _ g1 (.bl _)⟩
/-- isinstance(e, (list, tuple)) of a tuple -/
theorem De.isiLT {x1 : Nat} {p3 p4 : Pos} (fr : Free X.mg) (h : De X T δ e (.tuple ds)) (hk : PySem.W.kitAny X.K (.type "tuple") [.type "list", .type "tuple"] = some true)
    (hg : Gl X "isinstance" := by rfl) (hg1 : Gl X "list" := by rfl) (hg2 : Gl X "tuple" := by rfl) (he : starEach [e, .Tuple [.Name "list" p2, .Name "tuple" q2] x1 p3] X.env = (false, eval e X.env) :: starEach [.Tuple [.Name "list" p2, .Name "tuple" q2] x1 p3] X.env := by rfl)
    (he2 : starEach [.Tuple [.Name "list" p2, .Name "tuple" q2] x1 p3] X.env = (false, eval (.Tuple [.Name "list" p2, .Name "tuple" q2] x1 p3) X.env) :: starEach [] X.env := by rfl) (he3 : starEach [.Name "list" p2, .Name "tuple" q2] X.env = (false, eval (.Name "list" p2) X.env) :: starEach [.Name "tuple" q2] X.env := by rfl)
    (he4 : starEach [.Name "tuple" q2] X.env = (false, eval (.Name "tuple" q2) X.env) :: starEach [] X.env := by rfl) (hpl : (backTo pos (starEach [.Tuple [.Name "list" p2, .Name "tuple" q2] x1 p3] X.env)).any (·.1) = false := by rfl) :
    De X T δ (.Call (.Name "isinstance" p) [e, .Tuple [.Name "list" p2, .Name "tuple" q2] x1 p3] [] pos) (.bool true) := by
  refine De.of (pe_callB call_isiT hg (fr _ (by decide)) boot_isinstance (pa_cons pe_ev (pa_cons (pe_tup (pa_cons (pe_bltn (v := .ty "list") hg1 (fr _ (by decide)) boot_list rfl) (pa_cons (pe_bltn (v := .ty "tuple") hg2 (fr _ (by decide)) boot_tuple rfl) pa_nil he4) he3)) pa_nil he2) he) (by decide) (by decide) he hpl) fun σ H Q hl hd t q => h.go hl hd t fun v H1 g1 d1 => ?_
  refine ⟨by show 2 ≤ sizeLine; decide, fun tp htp => ⟨v, tp, [.ty "list", .ty "tuple"], .type "tuple", [.type "list", .type "tuple"], true, rfl, upd_same, .cons (.ty _) (.cons (.ty _) .nil), ?_, hk, q _ _ (g1.upd htp) (.bl _)⟩⟩
  exact ty_of (d := .tuple ds) (Dp.gw ((Gw.refl g1.2).upd htp) _ _ d1)
/-! ### arithmetic on ints -/
theorem De.add {i j : Int} (ha : De X T δ a (.int i)) (hb : De X T δ b (.int j)) : De X T δ (.BinOp a .Add b pos) (.int (i + j)) :=
  De.of (pe_add pe_ev pe_ev) fun σ H Q hl hd t q => ha.go hl hd t fun x H1 g1 d1 => hb.go hl (hd.gw g1) g1.2 fun y H2 g2 d2 => by
    cases d1
    cases d2
    exact ⟨i, j, rfl, rfl, q _ _ (g1.trans g2) (.int _)⟩
theorem De.sub {i j : Int} (ha : De X T δ a (.int i)) (hb : De X T δ b (.int j)) : De X T δ (.BinOp a .Sub b pos) (.int (i - j)) :=
  De.of (pe_sub pe_ev pe_ev) fun σ H Q hl hd t q => ha.go hl hd t fun x H1 g1 d1 => hb.go hl (hd.gw g1) g1.2 fun y H2 g2 d2 => by
    cases d1
    cases d2
    exact ⟨i, j, rfl, rfl, q _ _ (g1.trans g2) (.int _)⟩
theorem De.mul {i j : Int} (ha : De X T δ a (.int i)) (hb : De X T δ b (.int j)) (h1 : -(2 ^ 64) < i) (h2 : i < 2 ^ 64) : De X T δ (.BinOp a .Mult b pos) (.int (i * j)) :=
  De.of (pe_mul pe_ev pe_ev) fun σ H Q hl hd t q => ha.go hl hd t fun x H1 g1 d1 => hb.go hl (hd.gw g1) g1.2 fun y H2 g2 d2 => by
    cases d1
    cases d2
    exact ⟨i, j, rfl, rfl, ⟨h1, h2⟩, q _ _ (g1.trans g2) (.int _)⟩
/-- int(bool) -/
theorem De.intB {k : Bool} (fr : Free X.mg) (h : De X T δ e (.bool k)) (hg : Gl X "int" := by rfl) (he : starEach [e] X.env = (false, eval e X.env) :: starEach [] X.env := by rfl) : De X T δ (.Call (.Name "int" p) [e] [] pos) (.int (if k then 1 else 0)) :=
  De.ty call_int1 (fr _ (by decide)) boot_int (Da.cons h Da.nil he) (fun vs H Q dv t q => by
    obtain ⟨v, rfl, d1⟩ := dp1 dv
    cases d1
    exact .inr ⟨k, rfl, q _ _ (Gw.refl t) (.int _)⟩) hg (by decide) (by decide) he
/-- comparisons of ints -/
theorem Dt.gtI {i j : Int} (ha : De X T δ a (.int i)) (hb : De X T δ b (.int j)) : Dt X T δ (.Compare a [.Gt] [b] pos) (decide (i > j)) := Dt.int (r := fun i j => decide (i > j)) (tt := tGt) (fun h1 h2 => pc_gt h1 h2) (fun {_ _ _ _ _} => rfl) (nomark _) ha hb
theorem Dt.ltI {i j : Int} (ha : De X T δ a (.int i)) (hb : De X T δ b (.int j)) : Dt X T δ (.Compare a [.Lt] [b] pos) (decide (i < j)) := Dt.int (r := fun i j => decide (i < j)) (tt := tLt) (fun h1 h2 => pc_lt h1 h2) (fun {_ _ _ _ _} => rfl) (nomark _) ha hb
theorem Dt.geI {i j : Int} (ha : De X T δ a (.int i)) (hb : De X T δ b (.int j)) : Dt X T δ (.Compare a [.GtE] [b] pos) (decide (i ≥ j)) := Dt.int (r := fun i j => decide (i ≥ j)) (tt := tGe) (fun h1 h2 => pc_ge h1 h2) (fun {_ _ _ _ _} => rfl) (nomark _) ha hb
theorem De.geI {i j : Int} (ha : De X T δ a (.int i)) (hb : De X T δ b (.int j)) : De X T δ (.Compare a [.GtE] [b] pos) (.bool (decide (i ≥ j))) := De.intC (r := fun i j => decide (i ≥ j)) (tt := tGe) (fun h1 h2 => pc_ge h1 h2) (fun {_ _ _ _ _} => rfl) (nomark _) ha hb
theorem De.leI {i j : Int} (ha : De X T δ a (.int i)) (hb : De X T δ b (.int j)) : De X T δ (.Compare a [.LtE] [b] pos) (.bool (decide (i ≤ j))) := De.intC (r := fun i j => decide (i ≤ j)) (tt := tLe) (fun h1 h2 => pc_le h1 h2) (fun {_ _ _ _ _} => rfl) (nomark _) ha hb
end
theorem kit_ib {K : PySem.W.Frag} : PySem.W.kitOne K (.type "int") (.type "bool") = some false := by rfl
theorem kit_tl {K : PySem.W.Frag} : PySem.W.kitAny K (.type "tuple") [.type "list", .type "tuple"] = some true := by rfl
theorem kit_same {K : PySem.W.Frag} {n : String} : PySem.W.kitOne K (.type n) (.type n) = some true := by
  unfold PySem.W.kitOne
  rw [if_pos (by exact beq_self_eq_true _)]
end LB
end
section
set_option autoImplicit false
set_option Elab.async false
set_option linter.all false
set_option maxRecDepth 100000
set_option maxHeartbeats 4000000
/-! Judgements: chains, membership, slices, loops. -/
namespace LB
open PySem PySem.Spec PyProof.Rows L2 LamX

section
variable {X : Cx} {T : List (Addr × Str)} {δ δ' : List (Option PyData)} {a b c e iter elt : Expr} {es : List Expr} {body : List Stmt} {d d2 : PyData} {ds : List PyData} {p p2 q2 pos px py : Pos} {x y : Str} {scope : Scope}
/-- i <= j <= k -/
theorem Dt.chain {i j k : Int} (ha : De X T δ a (.int i)) (hb : De X T δ b (.int j)) (hc : De X T δ c (.int k)) (h1 : i ≤ j) (h2 : j ≤ k) (hm : lastMarks [.LtE, .LtE] [b, c] = false := by with_unfolding_all rfl) : Dt X T δ (.Compare a [.LtE, .LtE] [b, c] pos) true :=
  Dt.of (pt_chain op_le op_le pe_ev pe_ev pe_ev hm) fun σ H Q hl hd t q => ha.go hl hd t fun x H1 g1 d1 => hb.go hl (hd.gw g1) g1.2 fun y H2 g2 d2 => by
    cases d1
    cases d2
    refine ⟨i, j, rfl, rfl, _, rfl, ?_⟩
    rw [if_pos (decide_eq_true h1)]
    exact hc.go hl (hd.gw (g1.trans g2)) g2.2 fun z H3 g3 d3 => by
      cases d3
      exact ⟨j, k, rfl, rfl, _, rfl, by rw [decide_eq_true h2]; exact q _ ((g1.trans g2).trans g3)⟩
theorem De.chain {i j k : Int} (ha : De X T δ a (.int i)) (hb : De X T δ b (.int j)) (hc : De X T δ c (.int k)) (h1 : i ≤ j) (h2 : j ≤ k) (hm : lastMarks [.LtE, .LtE] [b, c] = false := by with_unfolding_all rfl) : De X T δ (.Compare a [.LtE, .LtE] [b, c] pos) (.bool true) :=
  De.of (pe_chain op_le op_le pe_ev pe_ev pe_ev hm) fun σ H Q hl hd t q => ha.go hl hd t fun x H1 g1 d1 => hb.go hl (hd.gw g1) g1.2 fun y H2 g2 d2 => by
    cases d1
    cases d2
    refine ⟨i, j, rfl, rfl, _, rfl, ?_⟩
    rw [if_pos (decide_eq_true h1)]
    exact hc.go hl (hd.gw (g1.trans g2)) g2.2 fun z H3 g3 d3 => by
      cases d3
      exact ⟨j, k, rfl, rfl, by show Q (.bl (decide (j ≤ k))) H3; rw [decide_eq_true h2]; exact q _ _ ((g1.trans g2).trans g3) (.bl true)⟩
/-- a sign in a text -/
theorem De.inSign {k : Nat} {z : Str} (ha : De X T δ a (.str ⟨#[k]⟩)) (hb : De X T δ b (.str z)) (hm : behindInMarks .In b = false := by with_unfolding_all rfl) : De X T δ (.Compare a [.In] [b] pos) (.bool (decide (k ∈ z.cps.toList))) :=
  De.of (pe_cmpR op_in_sign pe_ev pe_ev hm) fun σ H Q hl hd t q => ha.go hl hd t fun x H1 g1 d1 => hb.go hl (hd.gw g1) g1.2 fun y H2 g2 d2 => by
    cases d1
    cases d2
    exact ⟨k, z, rfl, rfl, q _ _ (g1.trans g2) (.bl _)⟩
theorem strs_of {K : PySem.W.Frag} {H : Hp} : ∀ {zs : List Str} {vs : List V}, DpAll K H vs (zs.map .str) → vs = zs.map V.str
  | [], _, h => by cases h; rfl
  | z :: zs, _, h => by
    have h : DpAll K H _ (.str z :: zs.map .str) := h
    cases h with
    | cons h1 t =>
      cases h1
      rw [strs_of t]
      rfl
def inS (z : Str) (zs : List Str) : Bool := inV (.str z) (zs.map V.str)
theorem inS_mem {z : Str} {zs : List Str} (h : z ∈ zs) : inS z zs = true := by
  unfold inS inV
  rw [List.any_eq_true]
  exact ⟨.str z, List.mem_map.mpr ⟨z, h, rfl⟩, by show decide (z = z) = true; exact decide_eq_true rfl⟩
/-- a text in a tuple of texts -/
theorem De.inT {z : Str} {zs : List Str} (ha : De X T δ a (.str z)) (hb : De X T δ b (.tuple (zs.map .str))) (hm : behindInMarks .In b = false := by with_unfolding_all rfl) : De X T δ (.Compare a [.In] [b] pos) (.bool (inS z zs)) :=
  De.of (pe_cmpR op_in_seq pe_ev pe_ev hm) fun σ H Q hl hd t q => ha.go hl hd t fun x H1 g1 d1 => hb.go hl (hd.gw g1) g1.2 fun y H2 g2 d2 => by
    cases d1
    cases d2 with
    | tup hs hv => exact ⟨_, zs.map V.str, rfl, .inr (by rw [← strs_of hv]; exact hs), rfl, L2.flat_strs zs, q _ _ (g1.trans g2) (.bl _)⟩
theorem Dt.inT {z : Str} {zs : List Str} (ha : De X T δ a (.str z)) (hb : De X T δ b (.tuple (zs.map .str))) (hm : behindInMarks .In b = false := by with_unfolding_all rfl) : Dt X T δ (.Compare a [.In] [b] pos) (inS z zs) :=
  Dt.of (pt_cmpR op_in_seq pe_ev pe_ev hm) fun σ H Q hl hd t q => ha.go hl hd t fun x H1 g1 d1 => hb.go hl (hd.gw g1) g1.2 fun y H2 g2 d2 => by
    cases d1
    cases d2 with
    | tup hs hv => exact ⟨_, zs.map V.str, rfl, .inr (by rw [← strs_of hv]; exact hs), rfl, L2.flat_strs zs, _, rfl, q _ (g1.trans g2)⟩
theorem dpAll_drop {K : PySem.W.Frag} {H : Hp} : ∀ (k : Nat) {vs : List V} {ds : List PyData}, DpAll K H vs ds → DpAll K H (vs.drop k) (ds.drop k)
  | 0, _, _, h => h
  | k + 1, _, _, .nil => by simp; exact .nil
  | k + 1, _, _, .cons _ t => dpAll_drop k t
/-- a part of a tuple, not the whole; its object has no dict -/
def rSlN (K : PySem.W.Frag) : V → Option Int → Option Int → Hp → VK → Prop := fun x lo hi H Q => ∃ a xs, x = .ref a ∧ SqT K H a xs ∧
  ¬ (HT.sIx xs.length 0 lo = 0 ∧ HT.sIx xs.length xs.length hi = xs.length) ∧ ∀ (p : Addr) (o : Obj), H p = none → o.dict = none → Q (.ref p) (upd H p (.frz o (.tup (cutV xs lo hi))))
theorem sl_tupN {X : Cx} : SlR X (rSlN X.K) := by
  rintro pins s σ H x v vl vu lo hi sl Q I rx hs pl pu ⟨a, xs, rfl, hx, hw, q⟩
  cases rx
  obtain ⟨its, r, ht, hz⟩ := I.tuple hx
  have hlen : its.toArray.size = xs.length := by rw [r.length, List.size_toArray]
  refine ⟨"tuple", _, PyProof.Rows.slot_tuple_getitem.lookup, ht.typeIs, HT.getItem_tuple_cut ht hs pl pu (hlen ▸ hw) ?_ (hlen ▸ hz)⟩
  rw [hlen]
  exact ⟨.ref s.heap.objs.size, _, laid_N (tk := s.toks) I (fun b ob q => Heap.get?_push_of_some _ q) (Nat.le_refl _) (Nat.le_trans (cutV_length xs lo hi) hz) ((r.drop (HT.sIx xs.length 0 lo)).take (HT.sIx xs.length xs.length hi - HT.sIx xs.length 0 lo)) (Heap.get?_push_size _ rfl), rfl,
    q _ _ (I.hok.fresh (Nat.le_refl _)) rfl⟩
/-- t + u; a new one's object has no dict -/
def rCatN (K : PySem.W.Frag) : R2 := fun x y H Q => ∃ a b xs ys, x = .ref a ∧ y = .ref b ∧ SqT K H a xs ∧ SqT K H b ys ∧ xs.length + ys.length ≤ sizeLine ∧
  (xs = [] → Q (.ref b) H) ∧ (xs ≠ [] → ys = [] → Q (.ref a) H) ∧ (xs ≠ [] → ys ≠ [] → ∀ (p : Addr) (o : Obj), H p = none → o.dict = none → Q (.ref p) (upd H p (.frz o (.tup (xs ++ ys)))))
theorem op_catN {X : Cx} : OpR X (binaryOp .Add) (rCatN X.K) := by
  rintro pins s σ H x y v u Q I rx ry ⟨a, b, xs, ys, rfl, rfl, ha, hb, hz, q0, q1, q2⟩
  cases rx
  cases ry
  obtain ⟨us, r1, p1, _⟩ := I.tuple ha
  obtain ⟨ws, r2, p2, _⟩ := I.tuple hb
  by_cases hx : xs = []
  · have hu : us = [] := r1.nil_iff.mpr hx
    subst hu
    exact cat_tup0 p1 p2 ⟨.ref b, H, I, rfl, q0 hx⟩
  · exact HT.cat_tup p1 p2 (fun z => hx (r1.nil_iff.mp z)) (fun z => ⟨.ref a, H, I, rfl, q1 hx (r2.nil_iff.mp z)⟩)
      (fun z => ⟨.ref s.heap.objs.size, _, laid_N (tk := s.toks) I (fun b ob q => Heap.get?_push_of_some _ q) (Nat.le_refl _) (by rw [List.length_append]; exact hz) (r1.append r2) (Heap.get?_push_size _ rfl), rfl, q2 hx (fun w => z (r2.nil_iff.mpr w)) _ _ (I.hok.fresh (Nat.le_refl _)) rfl⟩)
      (by rw [← r1.length, ← r2.length]; exact hz)
theorem De.catT {ds es : List PyData} (ha : De X T δ a (.tuple ds)) (hb : De X T δ b (.tuple es)) (hn : ds.length + es.length ≤ 900) : De X T δ (.BinOp a .Add b pos) (.tuple (ds ++ es)) :=
  De.of (pe_op op_catN pe_ev pe_ev) fun σ H Q hl hd t q => ha.go hl hd t fun x H1 g1 d1 => hb.go hl (hd.gw g1) g1.2 fun y H2 g2 d2 => by
    cases Dp.gw g2 _ _ d1 with
    | @tup p xs _ hs hv =>
      cases d2 with
      | @tup p2 ys _ hs2 hv2 =>
        have l1 := dpAll_len hv
        have l2 := dpAll_len hv2
        have app : ∀ {H : Hp} {vs : List V} {ds1 : List PyData} {ws : List V} {ds : List PyData}, DpAll X.K H vs ds1 → DpAll X.K H ws ds → DpAll X.K H (vs ++ ws) (ds1 ++ ds) := by
          intro H vs ds1 ws ds h1 h2
          induction vs generalizing ds1 with
          | nil => cases h1; exact h2
          | cons v vs ih =>
            cases h1 with
            | cons a b => exact .cons a (ih b)
        refine ⟨p, p2, xs, ys, rfl, rfl, hs, hs2, by rw [sizeLine_eq]; omega, fun e => ?_, fun e1 e2 => ?_, fun e1 e2 l o hp nd => ?_⟩
        · subst e
          cases hv
          exact q _ _ (g1.trans g2) (.tup hs2 hv2)
        · subst e2
          cases hv2
          exact q _ _ (g1.trans g2) (by rw [List.append_nil]; exact .tup hs hv)
        · have z := lay_tup hp nd (app hv hv2) g2.2
          exact q _ _ ((g1.trans g2).trans z.1) z.2
/-- t[1:] of a tuple that is not empty -/
theorem De.cut1 {j : Nat} {p3 p4 : Pos} (ha : De X T δ a (.tuple (d :: ds))) (hn : ds.length ≤ 900) : De X T δ (.Subscript a (.Slice (some (.Constant (.int 1) j p3)) none none p4) pos) (.tuple ds) :=
  De.of (pe_slice sl_tupN pe_ev (po_some pe_int) po_none) fun σ H Q hl hd t q => ha.go hl hd t fun x H1 g1 d1 => by
    cases d1 with
    | tup hs hv =>
      have len := dpAll_len hv
      rw [List.length_cons] at len
      have sx : ∀ n : Nat, HT.sIx (n + 1) 0 (some (1 : Int)) = 1 := fun n => by
        have e : HT.sIx (n + 1) 0 (some (((1 : Nat) : Int))) = min 1 (n + 1) := HT.sIx_nat _ 0 1
        have e2 : min 1 (n + 1) = 1 := by omega
        rw [e2] at e
        exact e
      cases hv with
      | @cons v vs _ _ h1 tl =>
        refine ⟨1, rfl, _, _, rfl, hs, ?_, fun p o hp nd => ?_⟩
        · rintro ⟨h1, _⟩
          rw [List.length_cons, sx] at h1
          exact absurd h1 (by decide)
        · have e2 : cutV (v :: vs) (some (1 : Int)) none = vs := by
            unfold cutV
            rw [List.length_cons, sx, HT.sIx_none]
            simp only [List.drop_succ_cons, List.drop_zero]
            exact List.take_of_length_le (by omega)
          rw [e2]
          exact q _ _ (g1.trans (lay_tup hp nd tl g1.2).1) (lay_tup hp nd tl g1.2).2

/-! ### comprehensions over texts -/
def signs (z : Str) : List PyData := z.cps.toList.map fun c => .str ⟨#[c]⟩
theorem De.mapS {z : Str} {i : Nat} {f : PyData → PyData} (hc : X.calm = true) (hN : X.N.Nodup) (hi : De X T δ iter (.str z)) (hn : z.cps.size ≤ 1000) (hnl : ∀ d ∈ signs z, nl (f d) = true) (helt : ∀ d ∈ signs z, EltOk X T scope (δ.set i (some d)) elt (f d)) (bk : BlkOk X.N X.env.scope scope [(x, i)]) (hx : X.N[i]? = some x) (hg : PgOk X scope (.Name x px) (gName i))
    (hs : ∀ x, foldedSetIterable iter X.env x = pure x := by intro _; rfl) : De X T δ (.ListComp elt [⟨.Name x px, iter, [], 0⟩] scope pos) (.list ((signs z).map f)) := by
  refine De.of (pe_lc (te := bvT X scope elt) hc hN (pi_str pe_ev) bk hg (ifs_nil (T := T)).pts (fun s H C cl fp => ⟨fun pins s1 σ H1 Q J h => h s H C cl fp pins s1 J⟩) hs) fun σ H Q hl hd t q => hi.go hl hd t fun v H1 g1 d1 => ?_
  cases d1
  have len : (signs z).length = z.cps.size := by unfold signs; rw [List.length_map, Array.length_toList]
  refine ⟨z, rfl, fun D hD => lc_data (X := X) (out := fun j => (signs z)[j]?.bind fun d => some (f d)) walk_str hD g1.2 hn (fun H g => trivial) (fun j d h => ?_) (fun j y H2 H' hj g2 zz => ?_) (fun j y H' P P' h z => h _ _ z) (ifs_nil (X := X) (T := T) (scope := scope)).mono (bvT_mono) fun H2 vs g2 h2 dv => ?_⟩
  · obtain ⟨d0, h0, h1⟩ := Option.bind_eq_some_iff.mp h
    rw [← Option.some.inj h1]
    exact hnl d0 (List.mem_of_getElem? h0)
  · obtain ⟨rfl, k, hk, rfl⟩ := zz
    have e0 : (signs z)[j]? = some (.str ⟨#[k]⟩) := by
      unfold signs
      rw [List.getElem?_map, Array.getElem?_toList, hk]
      rfl
    have md := List.mem_of_getElem? e0
    have len2 : ((wipe σ [i]).set i (some (V.str ⟨#[k]⟩))).length = X.N.length := by rw [wipe_len]; exact hl
    have ds2 : DS X.K H' ((wipe σ [i]).set i (some (V.str ⟨#[k]⟩))) (δ.set i (some (.str ⟨#[k]⟩))) := wipe_ds (hd.gw (g1.trans g2)) (lt_of_ix hx hl) (.str _)
    refine ⟨wipe2, ?_⟩
    show Gw T H' H' ∧ _
    refine ⟨Gw.refl g2.2, by rw [e0]; rfl, fun _ s H0 C cl fp => ?_⟩
    exact (helt _ md s H0 C cl fp).go len2 ds2 g2.2 fun v H4 g4 d4 => ⟨g4, _, by rw [e0]; rfl, d4⟩
  · rw [← len, range_bind, List.filterMap_eq_map'] at dv
    exact q _ _ (g1.trans g2) (.lst (SqL.of h2) dv)

/-! ### loops that nothing leaves -/
def Sub (δ δ' : List (Option PyData)) : Prop := ∀ (i : Nat) (d : PyData), δ[i]? = some (some d) → δ'[i]? = some (some d)
theorem loop_data {J : It} {n : Nat} {G : Hp → Prop} {Y : Nat → Hp → V → Hp → Prop} (W : Walk J n G Y) {g : TG} {σ : L2.St} {H1 : Hp} {D : Ends} (hl : σ.length = X.N.length) (hd : DS X.K H1 σ δ) (t1 : Tabs T H1) (hG : ∀ H, Gw T H1 H → G H)
    (hs : ∀ j x σ H H' (P : L2.St → Hp → Prop), j < n → σ.length = X.N.length → Gw T H1 H → DS X.K H σ δ → Y j H x H' → (∀ σ' H2, σ'.length = X.N.length → Gw T H H2 → DS X.K H2 σ' δ → P σ' H2) → g x σ H' fun σ2 H2 => ssT X body { D with nx := P, ct := P, bk := D.nx } σ2 H2)
    (q : ∀ σ' H', σ'.length = X.N.length → Gw T H1 H' → DS X.K H' σ' δ → D.nx σ' H') :
    ∃ W : Nat → Nat → L2.St → Hp → Prop, (∃ m, W 0 m σ H1) ∧ ∀ i m σ H, W i m σ H →
      (J.stop i H ∧ D.nx σ H) ∨ (J.go i H ∧ ∃ N : L2.St → Hp → Prop, (∀ σ' H', N σ' H' → ∃ m', m' < m ∧ W (i + 1) m' σ' H') ∧ ∀ x H', J.yld i H x H' → g x σ H' fun σ2 H2 => ssT X body { D with nx := N, ct := N, bk := D.nx } σ2 H2) :=
  for_it W (fun j σ H => σ.length = X.N.length ∧ Gw T H1 H ∧ DS X.K H σ δ) ⟨hl, Gw.refl t1, hd⟩ (fun j σ H _ p => hG H p.2.1)
    (fun j x σ H H' hj p y => hs j x σ H H' _ hj p.1 p.2.1 p.2.2 y fun σ' H2 l2 g2 d2 => ⟨l2, p.2.1.trans g2, d2⟩) fun σ H p => q σ H p.1 p.2.1 p.2.2
theorem turn_body {σ : L2.St} {H : Hp} {D : Ends} {i : Nat} {v : V} {P : L2.St → Hp → Prop} (hi : X.N[i]? = some x) (hl : σ.length = X.N.length) (hd : DS X.K H σ δ) (t : Tabs T H) (dv : Dp X.K H v d) (hb : ∃ δ2, Dn X T (δ.set i (some d)) body δ2 ∧ Sub δ δ2)
    (q : ∀ σ' H2, σ'.length = X.N.length → Gw T H H2 → DS X.K H2 σ' δ → P σ' H2) : gName i v σ H fun σ2 H2 => ssT X body { D with nx := P, ct := P, bk := D.nx } σ2 H2 := by
  obtain ⟨δ2, h, sub⟩ := hb
  exact h _ _ _ (by rw [List.length_set]; exact hl) (hd.set (lt_of_ix hi hl) dv) t fun σ' H' l g d2 => q σ' H' l g (d2.weak sub)
theorem Dn1.forL {i : Nat} (hp : PassesOwn (model X.prog X.w) X.A X.env X.xe) (hc : X.calm = true) (hi : De X T δ iter (.list ds)) (hb : ∀ d ∈ ds, ∃ δ2, Dn X T (δ.set i (some d)) body δ2 ∧ Sub δ δ2) (hx : X.N[i]? = some x) (hg : PG X (.Name x px) (gName i))
    (hs : ∀ x, foldedSetIterable iter X.env x = pure x := by intro _; rfl) : Dn1 X T δ (.For (.Name x px) iter body [] pos) δ :=
  Dn1.of (ps_for hp hc (pi_list pe_ev) hg pss_ev hs) fun σ H D hl hd t q => hi.go hl hd t fun v H1 g1 d1 => by
    cases d1 with
    | @lst a xs _ hq hv =>
      refine ⟨a, rfl, ⟨xs, hq⟩, loop_data walk_list hl (hd.gw g1) g1.2 (fun H g => SqL.gw hq g) (fun j y σ H H' P hj l2 g2 d2 z k => ?_) fun σ' H' l g2 d2 => q σ' H' l (g1.trans g2) d2⟩
      obtain ⟨rfl, hy⟩ := z
      have hj2 : j < ds.length := by rw [← dpAll_len hv]; exact hj
      obtain ⟨v', hv', dp⟩ := dpAll_get hv (List.getElem?_eq_getElem hj2)
      rw [hy] at hv'
      cases hv'
      exact turn_body hx l2 d2 g2.2 (Dp.gw g2 _ _ dp) (hb _ (List.getElem_mem hj2)) k
theorem Dn1.forT {i : Nat} (hp : PassesOwn (model X.prog X.w) X.A X.env X.xe) (hc : X.calm = true) (hi : De X T δ iter (.tuple ds)) (hb : ∀ d ∈ ds, ∃ δ2, Dn X T (δ.set i (some d)) body δ2 ∧ Sub δ δ2) (hx : X.N[i]? = some x) (hg : PG X (.Name x px) (gName i))
    (hs : ∀ x, foldedSetIterable iter X.env x = pure x := by intro _; rfl) : Dn1 X T δ (.For (.Name x px) iter body [] pos) δ :=
  Dn1.of (ps_for hp hc (pi_tup pe_ev) hg pss_ev hs) fun σ H D hl hd t q => hi.go hl hd t fun v H1 g1 d1 => by
    cases d1 with
    | @tup a xs _ hq hv =>
      refine ⟨a, rfl, ⟨xs, hq⟩, loop_data walk_tup hl (hd.gw g1) g1.2 (fun H g => SqT.gw hq g) (fun j y σ H H' P hj l2 g2 d2 z k => ?_) fun σ' H' l g2 d2 => q σ' H' l (g1.trans g2) d2⟩
      obtain ⟨rfl, hy⟩ := z
      have hj2 : j < ds.length := by rw [← dpAll_len hv]; exact hj
      obtain ⟨v', hv', dp⟩ := dpAll_get hv (List.getElem?_eq_getElem hj2)
      rw [hy] at hv'
      cases hv'
      exact turn_body hx l2 d2 g2.2 (Dp.gw g2 _ _ dp) (hb _ (List.getElem_mem hj2)) k
theorem pair_turn {σ : L2.St} {H H' : Hp} {D : Ends} {i j : Nat} {v : V} {P : L2.St → Hp → Prop} {xs : List V} {n : Nat} (hi : X.N[i]? = some x) (hj : X.N[j]? = some y) (hl : σ.length = X.N.length) (hd : DS X.K H σ δ) (t : Tabs T H) (hv : DpAll X.K H xs ds)
    (z : YPair (fun i => some (.int (i : Nat))) (fun i => xs[i]?) n H v H') (hb : ∀ d, ds[n]? = some d → ∃ δ2, Dn X T ((δ.set i (some (.int (n : Nat)))).set j (some d)) body δ2 ∧ Sub δ δ2)
    (q : ∀ σ' H2, σ'.length = X.N.length → Gw T H H2 → DS X.K H2 σ' δ → P σ' H2) : gTup X.K 2 (gCons (gName i) (gCons (gName j) gNil)) v σ H' fun σ2 H2 => ssT X body { D with nx := P, ct := P, bk := D.nx } σ2 H2 := by
  obtain ⟨Tp, v1, v2, rfl, hT, rfl, h1, h2⟩ := z
  cases h1
  have hn := (List.getElem?_eq_some_iff.mp h2).1
  have hn2 : n < ds.length := by rw [← dpAll_len hv]; exact hn
  obtain ⟨v', hv', dp⟩ := dpAll_get hv (List.getElem?_eq_getElem hn2)
  have h2 : xs[n]? = some v2 := h2
  rw [h2] at hv'
  cases hv'
  have g : Gw T H (upd H Tp (.tup [.int (n : Nat), v2])) := (Gw.refl t).upd hT
  obtain ⟨δ2, h, sub⟩ := hb _ (List.getElem?_eq_getElem hn2)
  have dd := ((hd.gw g).set (lt_of_ix hi hl) (Dp.int (n : Nat))).set (v := v2) (d := ds[n]) (i := j) (by rw [List.length_set]; exact lt_of_ix hj hl) (Dp.gw g _ _ dp)
  refine ⟨Tp, _, rfl, SqT.of upd_same, rfl, _, _, rfl, _, _, rfl, rfl, ?_⟩
  exact h _ _ _ (by rw [List.length_set, List.length_set]; exact hl) dd g.2 fun σ' H' l g2 d2 => q σ' H' l (g.trans g2) (d2.weak sub)
theorem Dn1.forET {i j k1 : Nat} {pt : Pos} (fr : Free X.mg) (hp : PassesOwn (model X.prog X.w) X.A X.env X.xe) (hc : X.calm = true) (hi : De X T δ iter (.tuple ds)) (hb : ∀ n d, ds[n]? = some d → ∃ δ2, Dn X T ((δ.set i (some (.int (n : Nat)))).set j (some d)) body δ2 ∧ Sub δ δ2)
    (hx : X.N[i]? = some x) (hy : X.N[j]? = some y) (hg : PG X (.Tuple [.Name x px, .Name y py] k1 pt) (gTup X.K 2 (gCons (gName i) (gCons (gName j) gNil)))) (hge : Gl X "enumerate" := by rfl) (he : starEach [iter] X.env = [(false, eval iter X.env)] := by rfl)
    (hs : ∀ x, foldedSetIterable (.Call (.Name "enumerate" p) [iter] [] p2) X.env x = pure x := by intro _; rfl) : Dn1 X T δ (.For (.Tuple [.Name x px, .Name y py] k1 pt) (.Call (.Name "enumerate" p) [iter] [] p2) body [] pos) δ :=
  Dn1.of (ps_for hp hc (pi_enumT hge (fr _ (by decide)) (pa_cons pe_ev pa_nil he) he) hg pss_ev hs) fun σ H D hl hd t q => hi.go hl hd t fun v H1 g1 d1 => by
    cases d1 with
    | @tup a xs _ hq hv => exact ⟨a, xs, rfl, hq, loop_data walk_enumT hl (hd.gw g1) g1.2 (fun H g => SqT.gw hq g) (fun n y σ H H' P hn l2 g2 d2 z k => pair_turn hx hy l2 d2 g2.2 (DpAll.gw g2 _ _ hv) z (hb n) k) fun σ' H' l g2 d2 => q σ' H' l (g1.trans g2) d2⟩
theorem Dn1.forEL {i j k1 : Nat} {pt : Pos} (fr : Free X.mg) (hp : PassesOwn (model X.prog X.w) X.A X.env X.xe) (hc : X.calm = true) (hi : De X T δ iter (.list ds)) (hb : ∀ n d, ds[n]? = some d → ∃ δ2, Dn X T ((δ.set i (some (.int (n : Nat)))).set j (some d)) body δ2 ∧ Sub δ δ2)
    (hx : X.N[i]? = some x) (hy : X.N[j]? = some y) (hg : PG X (.Tuple [.Name x px, .Name y py] k1 pt) (gTup X.K 2 (gCons (gName i) (gCons (gName j) gNil)))) (hge : Gl X "enumerate" := by rfl) (he : starEach [iter] X.env = [(false, eval iter X.env)] := by rfl)
    (hs : ∀ x, foldedSetIterable (.Call (.Name "enumerate" p) [iter] [] p2) X.env x = pure x := by intro _; rfl) : Dn1 X T δ (.For (.Tuple [.Name x px, .Name y py] k1 pt) (.Call (.Name "enumerate" p) [iter] [] p2) body [] pos) δ :=
  Dn1.of (ps_for hp hc (pi_enum hge (fr _ (by decide)) (pa_cons pe_ev pa_nil he) he) hg pss_ev hs) fun σ H D hl hd t q => hi.go hl hd t fun v H1 g1 d1 => by
    cases d1 with
    | @lst a xs _ hq hv => exact ⟨a, xs, rfl, hq, loop_data walk_enum hl (hd.gw g1) g1.2 (fun H g => SqL.gw hq g) (fun n y σ H H' P hn l2 g2 d2 z k => pair_turn hx hy l2 d2 g2.2 (DpAll.gw g2 _ _ hv) z (hb n) k) fun σ' H' l g2 d2 => q σ' H' l (g1.trans g2) d2⟩
end
end LB
end
section
set_option autoImplicit false
set_option Elab.async false
set_option linter.all false
set_option maxRecDepth 100000
set_option maxHeartbeats 6400000
/-! len(set(t)), t a tuple of texts or ints told apart. -/
namespace LB
open PySem PySem.Spec PySem.W PyProof.Rows L2 PySem.Froz
section
variable {P : Program} {w : World} {A : Around} {E : Value → Shared → Prop} {s : Shared}
set_option maxRecDepth 100000 in
theorem call_set_genT {l : Addr} {items : Array Value} {R : Nat → Heap → Prop} {Q : Value → Shared → Prop} (hh : A.handled = none) (hl : s.heap.IsTuple l items) (add : AddsAt P w (A.units + 3) s.heap items s.heap.objs.size R) (kp : KeepsAt s.heap s.heap.objs.size R)
    (h0 : ∀ h, h.get? s.heap.objs.size = some (freshSet w) → (∀ b o, s.heap.get? b = some o → h.get? b = some o) → R 0 h)
    (hQ : ∀ (h' : Heap) (tk : Nat), R items.size h' → (∀ b o, s.heap.get? b = some o → h'.get? b = some o) → Q (.ref s.heap.objs.size) { s with heap := h', toks := tk }) :
    wpAny (model P w) A (call (.type "set") [.ref l]) Q E s := by
  obtain ⟨c, tl, hmro⟩ := F.called_set.mro
  have hmade := F.called_set.made
  have hsub := F.called_set.sub
  refine wpAny_call (codeAny_of_tree ?_)
  show wpAny _ _ (callAny (.type "set") _) _ _ _
  refine wpAny_pure ⟨Code.quiet_builtin _ (by decide +kernel), codeAny_builtin F.entry_type_call ?_⟩
  rw [Around.under_plain (weight_type_call_type "set" [.ref l] []) rfl]
  have h1 := F.called_set.notType
  have h2 := F.called_set.canCreate
  have hct := F.typeCall_set_1 (.ref l)
  repeat (any_goals (first | assumption | wp_step))
  refine codeAny_mono (code_set_led1 (.ref l) (E := E) (Q₁ := fun obj s₁ => obj = .ref s.heap.objs.size ∧ s₁ = { s with heap := s.heap.push (freshSet w) }) ⟨rfl, rfl⟩) fun r s₁ hr => ?_
  cases r with
  | error e => exact hr
  | ok fl =>
    cases fl with
    | ret obj =>
      obtain ⟨rfl, rfl⟩ := hr
      have at0 : (s.heap.push (freshSet w)).get? s.heap.objs.size = some (freshSet w) := Heap.get?_push_size _ rfl
      have hT : Shared.TypeIs { s with heap := s.heap.push (freshSet w) } (.ref s.heap.objs.size) "set" := ⟨_, at0, rfl⟩
      have hli := F.called_set.init.lookup
      have hbi := F.called_set.init.bind (.ref s.heap.objs.size)
      repeat (any_goals (first | assumption | wp_step))
      refine codeAny_mono (codeAny_call_builtin (R := wants (fun r s₂ => r = .none ∧ ∃ h' tk, s₂ = { s with heap := h', toks := tk } ∧ R items.size h' ∧ (∀ b o, s.heap.get? b = some o → h'.get? b = some o)) E) F.called_set.init.plain F.entry_set_init (check_set_init_1 hT ?_)) fun r₂ s₂ hr₂ => ?_
      · obtain ⟨ol, hol, hcl, nl, hdl⟩ := hl
        obtain ⟨ocls, odict, odata, oslots⟩ := ol
        simp only at hcl hdl
        subst hcl; subst hdl
        have hol' : (s.heap.push (freshSet w)).get? l = some { cls := .type "tuple", dict := odict, data := .seq items nl, slots := oslots } := Heap.get?_push_of_some _ hol
        have hsls := F.sub_tuple_set
        have hslf := F.sub_tuple_frozenset
        have hne : (Value.type "tuple" == Value.type "dict") = false := by decide
        have hl1 : (s.heap.push (freshSet w)).IsTuple l items := ⟨_, hol', rfl, nl, rfl⟩
        unfold Builtin.«set.__init__» noKeywords Builtin.Frozenset.updateFrom
        generalize hPI : pyIter = PI
        wp_walk
        subst hPI
        refine wpAny_pyIter_tuple hl1 ?_
        refine wpAny_bind (wpAny_runValue ?_)
        have hlS : l < s.heap.objs.size := Heap.lt_size hol
        have hh3 : A.in1.in1.in1.handled = none := by simp [hh]
        have hz : (s.heap.push (freshSet w)).objs.size = s.heap.objs.size + 1 := Heap.size_push ..
        have hneI : l ≠ (s.heap.push (freshSet w)).objs.size := by rw [hz]; exact Nat.ne_of_lt (Nat.lt_succ_of_lt hlS)
        have hSf : s.heap.objs.size ∉ [(s.heap.push (freshSet w)).objs.size, l] := by
          rw [hz]
          simp only [List.mem_cons, List.mem_singleton, List.not_mem_nil, or_false, not_or]
          exact ⟨Nat.ne_of_lt (Nat.lt_succ_self _), Nat.ne_of_gt hlS⟩
        have none_of : ∀ b, s.heap.objs.size ≤ b → s.heap.get? b = none := fun b hb => by
          cases q : s.heap.get? b with
          | none => rfl
          | some o => exact absurd (Nat.lt_of_lt_of_le (Heap.lt_size q) hb) (Nat.lt_irrefl _)
        have kept0 : ∀ b o, s.heap.get? b = some o → ((s.heap.push (freshSet w)).push { cls := .type "tuple_iterator", data := .fields #[.ref l, .int 0 0] }).get? b = some o := fun b o e => Heap.get?_push_of_some _ (Heap.get?_push_of_some _ e)
        refine update_gen ((Walks.tuple hh3 _ l hneI items).toS) hSf (fun i v hv => hv) (none_of _ (Nat.le_refl _)) (fun b hb => none_of b (by
            rw [List.mem_singleton.mp hb, hz]
            exact Nat.le_succ _)) add kp (items.size - 0) 0 _ (by omega) (Nat.zero_le _)
          ⟨⟨_, Heap.get?_push_size _ rfl, rfl, rfl⟩, (hl1.push _)⟩ kept0 (h0 _ (Heap.get?_push_of_some _ at0) kept0) ?hR
        case hR =>
          intro s' hm hS' hkp
          obtain ⟨h', g2, d', tk', os'⟩ := s'
          have eg : g2 = s.gens := hm.gens
          have ed : d' = s.drawn := hm.drawn
          have eo : os' = s.os := hm.os
          subst eg; subst ed; subst eo
          show wpAny _ _ _ _ _ _
          refine wpAny_pure ?_
          show wpAny _ _ (ret Value.none) _ _ _
          exact wpAny_pure ⟨rfl, h', tk', rfl, hS', hkp⟩
      · cases r₂ with
        | error e => exact hr₂
        | ok fl₂ =>
          cases fl₂ with
          | ret r =>
            obtain ⟨rfl, h', tk, rfl, hS', hk'⟩ := hr₂
            repeat (any_goals (first | assumption | wp_step))
            exact hQ _ _ hS' hk'
          | _ => exact hr₂.elim
    | _ => exact hr.elim
end
end LB
end
section
set_option autoImplicit false
set_option Elab.async false
set_option linter.all false
set_option maxRecDepth 100000
set_option maxHeartbeats 4000000
/-! Judgements: len(set(t)); plain comparisons. -/
namespace LB
open PySem PySem.Spec PyProof.Rows L2 LamX PySem.Froz

section
variable {P : Program} {w : World} {A : Around} {E : Value → Shared → Prop} {s : Shared}
/-- texts told apart -/
theorem set_textsT {l : Addr} {us : List Value} {xs : List Str} {Q : Value → Shared → Prop} (hh : A.handled = none) (hl : s.heap.IsTuple l us.toArray) (hi : StrsAre us xs) (nd : xs.Nodup) (few : xs.length ≤ 100)
    (hQ : ∀ h' tk es ep tb, h'.get? s.heap.objs.size = some (sObj "set" (es, ep, tb)) → tb.fits es.size = true → es.size = xs.length → (∀ b o, s.heap.get? b = some o → h'.get? b = some o) → Q (.ref s.heap.objs.size) { s with heap := h', toks := tk }) :
    wpAny (model P w) A (call (.type "set") [.ref l]) Q E s := by
  have at_ : ∀ {us : List Value} {xs : List Str}, StrsAre us xs → ∀ (i : Nat) (v : Value), us[i]? = some v → ∃ x t, xs[i]? = some x ∧ v = .str x t := by
    intro us xs h
    induction h with
    | nil => intro i v h; simp at h
    | @cons us xs k t h ih =>
      intro i v hv
      cases i with
      | zero => exact ⟨_, _, rfl, (Option.some.inj hv).symm⟩
      | succ i => exact ih i v hv
  have len : us.length = xs.length := by
    clear hQ hl nd few at_
    induction hi with
    | nil => rfl
    | cons k t h ih => rw [List.length_cons, List.length_cons, ih]
  refine call_set_genT (R := fun i h => ∃ D ls, h.get? s.heap.objs.size = some (sObj "set" D) ∧ TxOk P w D ls ∧ ls.length = i ∧ ∀ x ∈ ls, x ∈ xs.take i) hh hl ?_ ?_ ?_ ?_
  · rintro i v A' E' s' Q' hv hA ⟨D, ls, hD, F, hn, sub⟩ hk hq
    rw [List.getElem?_toArray] at hv
    obtain ⟨x, t, hx, rfl⟩ := at_ hi i v hv
    have hil : i < xs.length := (List.getElem?_eq_some_iff.mp hx).1
    have hno : x ∉ ls := fun hm => by
      obtain ⟨j, hj, e⟩ := List.getElem_of_mem (sub x hm)
      rw [List.length_take] at hj
      rw [List.getElem_take] at e
      have e2 : xs[i] = x := by
        rw [List.getElem?_eq_getElem hil] at hx
        exact Option.some.inj hx
      have := (List.getElem_inj nd).mp (e.trans e2.symm)
      omega
    unfold setAdd
    refine wpAny_holding (wpAny_bind ((strKind P w).pyHash (k := x) (is_str x t) ?_))
    have big : ls.length + 1 < scanBound := by unfold scanBound; omega
    refine add_x (P := P) (l := ls) (D := D) (s := { s' with toks := s'.toks + 1 }) hD F hno big ?_
    refine hq true _ _ (Nat.le_succ _) (Heap.SameBut.update ..) ⟨_, x :: ls, get_upd _ hD rfl, add_ok t F, by rw [List.length_cons, hn], fun y hy => ?_⟩
    rw [List.take_add_one, hx]
    rcases List.mem_cons.mp hy with e | hy
    · rw [e]; exact List.mem_append_right _ (List.mem_singleton.mpr rfl)
    · exact List.mem_append_left _ (sub y hy)
  · rintro i h h' ⟨D, ls, hD, r⟩ hS _
    exact ⟨D, ls, hS _ hD, r⟩
  · intro h hS _
    exact ⟨(#[], 0, .fresh 0 0 (!w.params.followText "set-order")), [], hS, TxOk.nil (by rfl), rfl, fun x hx => by cases hx⟩
  · rintro h' tk ⟨⟨es, ep, tb⟩, ls, hD, F, hn, _⟩ hk
    have sz : es.size = ls.length := F.sz
    rw [List.size_toArray] at hn
    exact hQ h' tk es ep tb hD F.fit (by rw [sz, hn, len]) hk
/-- ints told apart -/
theorem set_intsT {l : Addr} {us : List Value} {ns : List Int} {Q : Value → Shared → Prop} (hh : A.handled = none) (hl : s.heap.IsTuple l us.toArray) (hi : IntsAre us ns) (nd : ns.Nodup) (few : ns.length ≤ 100)
    (hQ : ∀ h' tk, SetR w h' s.heap.objs.size (fun j => decide (j ∈ ns)) ns.length → (∀ b o, s.heap.get? b = some o → h'.get? b = some o) → Q (.ref s.heap.objs.size) { s with heap := h', toks := tk }) : wpAny (model P w) A (call (.type "set") [.ref l]) Q E s := by
  have len : us.length = ns.length := IntsAre.length hi
  refine call_set_genT (R := fun i h => SetR w h s.heap.objs.size (fun j => decide (j ∈ ns.take i)) i) hh hl ?_ ?_ ?_ ?_
  · intro i v A' E' s' Q' hv hA hR hk hq
    rw [List.getElem?_toArray] at hv
    have hin : i < ns.length := by rw [← len]; exact (List.getElem?_eq_some_iff.mp hv).1
    obtain ⟨t, e⟩ := PyProof.Rows.IntsAre.int_at hi i v hv
    rw [List.getD_eq_getElem?_getD, List.getElem?_eq_getElem hin] at e
    obtain ⟨z, hz⟩ : ∃ z, ns[i]? = some z := ⟨_, List.getElem?_eq_getElem hin⟩
    have ez : ns[i] = z := by
      rw [List.getElem?_eq_getElem hin] at hz
      exact Option.some.inj hz
    have e : v = .int z t := by rw [← ez]; exact e
    subst e
    have hno : z ∉ ns.take i := fun hm => by
      obtain ⟨j, hj, e⟩ := List.getElem_of_mem hm
      rw [List.length_take] at hj
      rw [List.getElem_take] at e
      have := (List.getElem_inj nd).mp (e.trans ez.symm)
      omega
    unfold setAdd
    refine wpAny_holding (wpAny_bind ((intKind P w).pyHash (k := z) (intKind_is _ _ _ _) ?_))
    have big : us.length + 1 < scanBound := by unfold scanBound; omega
    refine setR_add_hashed (s := { s' with toks := s'.toks + 1 }) hR (by omega) fun h' sb hR2 => hq _ h' _ (Nat.le_succ _) sb ?_
    rw [decide_eq_false hno] at hR2
    rw [if_neg (by decide)] at hR2
    refine hR2.congr fun j => ?_
    rw [List.take_add_one, hz]
    simp [List.mem_append]
  · intro i h h' hR hS _
    exact hR.at hS
  · intro h hS _
    exact setR_new_at hS
  · intro h' tk hR hk
    have eN : ns.take us.toArray.size = ns := List.take_of_length_le (by rw [List.size_toArray, len]; exact Nat.le_refl _)
    rw [eN] at hR
    have eL : us.toArray.size = ns.length := by rw [List.size_toArray]; exact len
    rw [eL] at hR
    exact hQ h' tk hR hk
end
section
variable {X : Cx} {T : List (Addr × Str)} {δ : List (Option PyData)} {a b e : Expr} {p p2 q pos : Pos}
theorem De.lenSetS {xs : List Str} (fr : Free X.mg) (hc : X.calm = true) (h : De X T δ a (.tuple (xs.map .str))) (nd : xs.Nodup) (few : xs.length ≤ 100) (hg : Gl X "len" := by rfl) (hg2 : Gl X "set" := by rfl) (na : starEach [a] X.env = (false, eval a X.env) :: starEach [] X.env := by rfl) :
    De X T δ (.Call (.Name "len" p) [.Call (.Name "set" p2) [a] [] q] [] pos) (.int (xs.length : Nat)) := by
  intro σ H hl hd t pins s I
  refine Call_ (ld_blt I hg (fr _ (by decide)) boot_len ?_)
  refine PyProof.Rows.callWith_builtin1 (PyProof.Rows.args_cons ?_ rfl) rfl rfl
  refine Call_ (ld_blt I hg2 (fr _ (by decide)) boot_set ?_)
  refine PyProof.Rows.callWith_type1 (PyProof.Rows.args_cons (thn (h σ H hl hd t pins s I) fun v s1 ⟨x, H1, I1, r1, g1, d1⟩ => PyProof.Rows.args_nil ?_) na) na rfl
  cases d1 with
  | tup hs hv =>
    cases r1
    obtain ⟨its, rv, pl, hz⟩ := I1.tuple hs
    rw [strs_of hv] at rv
    refine set_textsT (P := X.prog) (w := X.w) (I1.ok.hd hc) pl (strsAre_of rv) nd few fun h' tk es ep tb ho hf hn hk => PyProof.Rows.args_nil ?_
    have I2 : Inv X pins σ H1 { s1 with heap := h', toks := tk } := I1.kept fun b o e => hk b o e
    exact call_len_set ho ⟨rfl, rfl, rfl⟩ rfl hf (by rw [hn]; omega) ⟨.int (xs.length : Nat), H1, I2.tok _, ⟨_, by rw [hn]⟩, g1, .int _⟩
theorem De.lenSetI {ns : List Int} (fr : Free X.mg) (hc : X.calm = true) (h : De X T δ a (.tuple (ns.map .int))) (nd : ns.Nodup) (few : ns.length ≤ 100) (hg : Gl X "len" := by rfl) (hg2 : Gl X "set" := by rfl) (na : starEach [a] X.env = (false, eval a X.env) :: starEach [] X.env := by rfl) :
    De X T δ (.Call (.Name "len" p) [.Call (.Name "set" p2) [a] [] q] [] pos) (.int (ns.length : Nat)) := by
  intro σ H hl hd t pins s I
  refine Call_ (ld_blt I hg (fr _ (by decide)) boot_len ?_)
  refine PyProof.Rows.callWith_builtin1 (PyProof.Rows.args_cons ?_ rfl) rfl rfl
  refine Call_ (ld_blt I hg2 (fr _ (by decide)) boot_set ?_)
  refine PyProof.Rows.callWith_type1 (PyProof.Rows.args_cons (thn (h σ H hl hd t pins s I) fun v s1 ⟨x, H1, I1, r1, g1, d1⟩ => PyProof.Rows.args_nil ?_) na) na rfl
  cases d1 with
  | tup hs hv =>
    cases r1
    obtain ⟨its, rv, pl, hz⟩ := I1.tuple hs
    rw [ints_of hv] at rv
    refine set_intsT (P := X.prog) (w := X.w) (I1.ok.hd hc) pl (ints_of_vals rv) nd few fun h' tk R hk => PyProof.Rows.args_nil ?_
    have I2 : Inv X pins σ H1 { s1 with heap := h', toks := tk } := I1.kept fun b o e => hk b o e
    obtain ⟨o, es, ep, tb, ho, hex, hdt, _, _, _, hb, hf, hn, _⟩ := R
    exact call_len_set ho hex hdt hf (by rw [hn]; omega) ⟨.int (ns.length : Nat), H1, I2.tok _, ⟨_, by rw [hn]⟩, g1, .int _⟩
/-! ### == and != of texts and ints -/
theorem De.eqS {x y : Str} (ha : De X T δ a (.str x)) (hb : De X T δ b (.str y)) : De X T δ (.Compare a [.Eq] [b] pos) (.bool (decide (x = y))) :=
  De.of (pe_cmpR op_eq pe_ev pe_ev (nomark _)) fun σ H Q hl hd t q => ha.go hl hd t fun v H1 g1 d1 => hb.go hl (hd.gw g1) g1.2 fun u H2 g2 d2 => by
    cases d1
    cases d2
    refine ⟨rfl, q _ _ (g1.trans g2) ?_⟩
    have e : decide (V.str x = V.str y) = decide (x = y) := by simp
    rw [e]
    exact .bl _
theorem Dt.eqS {x y : Str} (ha : De X T δ a (.str x)) (hb : De X T δ b (.str y)) : Dt X T δ (.Compare a [.Eq] [b] pos) (decide (x = y)) :=
  Dt.of (pt_cmpR op_eq pe_ev pe_ev (nomark _)) fun σ H Q hl hd t q => ha.go hl hd t fun v H1 g1 d1 => hb.go hl (hd.gw g1) g1.2 fun u H2 g2 d2 => by
    cases d1
    cases d2
    have e : decide (V.str x = V.str y) = decide (x = y) := by simp
    refine ⟨rfl, _, rfl, ?_⟩
    rw [e]
    exact q _ (g1.trans g2)
theorem De.eqI {x y : Int} (ha : De X T δ a (.int x)) (hb : De X T δ b (.int y)) : De X T δ (.Compare a [.Eq] [b] pos) (.bool (decide (x = y))) :=
  De.of (pe_cmpR op_eq pe_ev pe_ev (nomark _)) fun σ H Q hl hd t q => ha.go hl hd t fun v H1 g1 d1 => hb.go hl (hd.gw g1) g1.2 fun u H2 g2 d2 => by
    cases d1
    cases d2
    refine ⟨rfl, q _ _ (g1.trans g2) ?_⟩
    have e : decide (V.int x = V.int y) = decide (x = y) := by simp
    rw [e]
    exact .bl _
theorem Dt.neI {x y : Int} (ha : De X T δ a (.int x)) (hb : De X T δ b (.int y)) : Dt X T δ (.Compare a [.NotEq] [b] pos) (!decide (x = y)) :=
  Dt.of (pt_cmpR op_ne pe_ev pe_ev (nomark _)) fun σ H Q hl hd t q => ha.go hl hd t fun v H1 g1 d1 => hb.go hl (hd.gw g1) g1.2 fun u H2 g2 d2 => by
    cases d1
    cases d2
    have e : decide (V.int x = V.int y) = decide (x = y) := by simp
    refine ⟨rfl, _, rfl, ?_⟩
    rw [e]
    exact q _ (g1.trans g2)
/-- both tests of a text against a text that is written in the program -/
theorem Dt.isS {x y : Str} {j : Nat} {pc : Pos} {r : Bool} (ha : De X T δ a (.str x)) (h : decide (x = y) = r := by decide +kernel) : Dt X T δ (.Compare a [.Eq] [.Constant (.str y) j pc] pos) r := h ▸ Dt.eqS ha De.str
end
end LB
end
section
set_option autoImplicit false
set_option Elab.async false
set_option linter.all false
set_option maxRecDepth 100000
set_option maxHeartbeats 4000000
/-! A list or dict of ours is set aside while the rest is read and grows. -/
namespace LB
open PySem PySem.Spec PyProof.Rows L2 LamX

def hid (H : Hp) (D : Addr) : Hp := fun b => if b = D then none else H b
theorem hid_self {H : Hp} {D : Addr} : hid H D D = none := if_pos rfl
theorem hid_ne {H : Hp} {D b : Addr} (h : b ≠ D) : hid H D b = H b := if_neg h
theorem hid_some {H : Hp} {D b : Addr} {o : HO} (h : hid H D b = some o) : H b = some o ∧ b ≠ D := by
  by_cases c : b = D
  · rw [c, hid_self] at h
    cases h
  · exact ⟨(hid_ne c).symm.trans h, c⟩
theorem hid_upd {H : Hp} {D : Addr} {o : HO} : hid (upd H D o) D = hid H D := by
  funext b
  by_cases c : b = D
  · rw [c, hid_self, hid_self]
  · rw [hid_ne c, hid_ne c, upd_ne c]
theorem hid_none {H : Hp} {D : Addr} (h : H D = none) : hid H D = H := by
  funext b
  by_cases c : b = D
  · rw [c, hid_self, h]
  · rw [hid_ne c]
theorem upd_hid {H : Hp} {D : Addr} {o : HO} (h : H D = some o) : upd (hid H D) D o = H := by
  funext b
  by_cases c : b = D
  · rw [c, upd_same, h]
  · rw [upd_ne c, hid_ne c]
/-- what may be set aside -/
def Mv : HO → Prop
  | .lst _ => True
  | .dK _ => True
  | _ => False
theorem mv_obj {P : Program} {w : World} {H : Hp} {h : Heap} {a : Addr} {o : HO} (m : Mv o) (x : ObjOk P w H h a o) : ∃ ob, h.get? a = some ob ∧ (∀ v, ob.data ≠ .cell v) ∧ ∀ (H' : Hp) (h' : Heap), h'.get? a = some ob → ObjOk P w H' h' a o := by
  cases o with
  | lst xs =>
    obtain ⟨z, its, n, r, e⟩ := x
    exact ⟨_, e, (fun v q => nomatch q), fun H' h' e' => ⟨z, its, n, r, e'⟩⟩
  | dK kvs =>
    obtain ⟨z, y, vs, r, ob, es, ep, e, c⟩ := x
    refine ⟨_, e, fun v q => ?_, fun H' h' e' => ⟨z, y, vs, r, ob, es, ep, e', c⟩⟩
    have cd := c.2.1
    rw [cd] at q
    cases q
  | _ => exact False.elim m
section
variable {X : Cx} {pins : List (Addr × Obj)} {σ : L2.St} {H : Hp} {s : Shared} {D : Addr} {o : HO}
theorem Inv.hide (I : Inv X pins σ H s) (h : H D = some o) (mv : Mv o) : ∃ ob, Inv X (pins ++ [(D, ob)]) σ (hid H D) s ∧
    ∀ {σ' : L2.St} {H' : Hp} {s' : Shared}, Inv X (pins ++ [(D, ob)]) σ' H' s' → H' D = none ∧ Inv X pins σ' (upd H' D o) s' := by
  obtain ⟨ob, e, nc, back⟩ := mv_obj mv (I.hok D o h)
  have neL : D ≠ X.env.locals := fun z => by
    have q := I.free
    rw [← z, h] at q
    cases q
  have neF : D ∉ X.fs := fun z => by
    obtain ⟨_, o2, ho, _⟩ := I.ok.funs.mem z
    have q := I.base.free D o2 ho (I.ok.frf D z) fun y => I.ok.exfs D y z
    rw [h] at q
    cases q
  have base0 : ∀ o2, X.s_0.heap.get? D = some o2 → X.H_0 D = none → D ∉ X.ex → False := fun o2 h1 h2 h3 => by
    have q := I.base.free D o2 h1 h2 h3
    rw [h] at q
    cases q
  have noT : ∀ xs, X.H_0 D ≠ some (.tup xs) := fun xs q => by
    have q := I.base.tups D xs q
    rw [h] at q
    have q := Option.some.inj q
    subst q
    exact mv
  have noZ : ∀ ob u, X.H_0 D ≠ some (.frz ob u) := fun ob u q => by
    have q := I.base.frzs D ob u q
    rw [h] at q
    have q := Option.some.inj q
    subst q
    exact mv
  have noB : ∀ ps, X.H_0 D ≠ some (.tbl ps) := fun ps q => by
    obtain ⟨m, q⟩ := I.base.tbls D ps q
    rw [h] at q
    have q := Option.some.inj q
    subst q
    exact mv
  have pinD : ∀ p ∈ X.pn ++ pins, p.1 ≠ D := fun p hp z => by
    have q := (I.pin p hp).2.1
    rw [z, h] at q
    cases q
  have hok1 : HOk X.prog X.w (hid H D) s.heap := fun b u e2 => by
    obtain ⟨e3, nb⟩ := hid_some e2
    refine (I.hok b u e3).stay (fun _ _ _ q => q) (fun c q => ?_) fun c xs q => ?_
    · by_cases cd : c = D
      · rw [cd, h] at q
        have q := Option.some.inj q
        subst q
        exact False.elim mv
      · rw [hid_ne cd]
        exact q
    · by_cases cd : c = D
      · rw [cd, h] at q
        have q := Option.some.inj q
        subst q
        exact False.elim mv
      · rw [hid_ne cd]
        exact q
  refine ⟨ob, ⟨I.ok, I.os, I.bare, ⟨I.base.keep, I.base.slot, fun b o2 h1 h2 h3 => ?_, I.base.there, fun b xs q => ?_, fun b ob2 u q => ?_, fun b ps q => ?_⟩, I.loc, I.cell, (hid_ne (Ne.symm neL)).trans I.free, fun x c q => ?_, fun p hp => ?_, hok1, I.len⟩, fun {σ' H' s'} J => ?_⟩
  · by_cases cd : b = D
    · rw [cd, hid_self]
    · exact (hid_ne cd).trans (I.base.free b o2 h1 h2 h3)
  · by_cases cd : b = D
    · exact absurd (cd ▸ q) (noT xs)
    · exact (hid_ne cd).trans (I.base.tups b xs q)
  · by_cases cd : b = D
    · exact absurd (cd ▸ q) (noZ ob2 u)
    · exact (hid_ne cd).trans (I.base.frzs b ob2 u q)
  · by_cases cd : b = D
    · exact absurd (cd ▸ q) (noB ps)
    · rw [hid_ne cd]
      exact I.base.tbls b ps q
  · by_cases cd : c = D
    · rw [cd, hid_self]
    · exact (hid_ne cd).trans (I.freeC x c q)
  · rw [← List.append_assoc] at hp
    rcases List.mem_append.mp hp with hp | hp
    · obtain ⟨p1, p2, p3, p4, p5⟩ := I.pin p hp
      exact ⟨p1, (hid_ne (pinD p hp)).trans p2, p3, p4, p5⟩
    · rw [List.mem_singleton.mp hp]
      exact ⟨e, hid_self, neL, neF, nc⟩
  · obtain ⟨eD, nD, _, _, _⟩ := J.pin (D, ob) (List.mem_append_right _ (List.mem_append_right _ List.mem_cons_self))
    have nD : H' D = none := nD
    have eD : s'.heap.get? D = some ob := eD
    have ext : ∀ b u, H' b = some u → upd H' D o b = some u := fun b u q => (upd_ne (ne_of_none q nD)).trans q
    refine ⟨nD, ⟨J.ok, J.os, J.bare, ⟨J.base.keep, J.base.slot, fun b o2 h1 h2 h3 => ?_, J.base.there, fun b xs q => ext _ _ (J.base.tups b xs q), fun b ob2 u q => ext _ _ (J.base.frzs b ob2 u q), fun b ps q => ?_⟩, J.loc, J.cell, (upd_ne (Ne.symm neL)).trans J.free, fun x c q => ?_, fun p hp => ?_, fun b u q => ?_, J.len⟩⟩
    · by_cases cd : b = D
      · subst cd
        exact False.elim (base0 o2 h1 h2 h3)
      · exact (upd_ne cd).trans (J.base.free b o2 h1 h2 h3)
    · obtain ⟨m, q⟩ := J.base.tbls b ps q
      exact ⟨m, ext _ _ q⟩
    · have nd : c ≠ D := fun z => by
        obtain ⟨v, o2, ho, hd⟩ := J.cell x c q
        rw [z, eD] at ho
        have ho := Option.some.inj ho
        subst ho
        exact nc v hd
      exact (upd_ne nd).trans (J.freeC x c q)
    · obtain ⟨p1, p2, p3, p4, p5⟩ := J.pin p (by rw [← List.append_assoc]; exact List.mem_append_left _ hp)
      exact ⟨p1, (upd_ne (pinD p hp)).trans p2, p3, p4, p5⟩
    · by_cases cd : b = D
      · subst cd
        rw [upd_same] at q
        rw [← Option.some.inj q]
        exact back _ _ eD
      · rw [upd_ne cd] at q
        exact (J.hok b u q).stay (fun _ _ _ z => z) (fun _ z => ext _ _ z) fun _ _ z => ext _ _ z

/-! ### what is told with the thing set aside holds with it -/
variable {e : Expr} {es : List Expr} {st : Stmt} {sts : List Stmt}
theorem evT.frame {Q : VK} (h : H D = some o) (mv : Mv o) (t : evT X e σ (hid H D) Q) : evT X e σ H fun v H' => ∃ H1, Q v H1 ∧ H1 D = none ∧ H' = upd H1 D o := fun pins s I => by
  obtain ⟨ob, J, back⟩ := Inv.hide I h mv
  refine thn (t _ s J) fun u s' ⟨v, H1, J1, r, q⟩ => ?_
  obtain ⟨n, I1⟩ := back J1
  exact ⟨v, _, I1, r, H1, q, n, rfl⟩
theorem tvT.frame {Q : Bool → Hp → Prop} (h : H D = some o) (mv : Mv o) (t : tvT X e σ (hid H D) Q) : tvT X e σ H fun v H' => ∃ H1, Q v H1 ∧ H1 D = none ∧ H' = upd H1 D o := fun pins s I => by
  obtain ⟨ob, J, back⟩ := Inv.hide I h mv
  refine thn (t _ s J) fun u s' ⟨H1, J1, q⟩ => ?_
  obtain ⟨n, I1⟩ := back J1
  exact ⟨_, I1, H1, q, n, rfl⟩
theorem avT.frame {Q : List V → Hp → Prop} (h : H D = some o) (mv : Mv o) (t : avT X es σ (hid H D) Q) : avT X es σ H fun v H' => ∃ H1, Q v H1 ∧ H1 D = none ∧ H' = upd H1 D o := fun pos pins s I => by
  obtain ⟨ob, J, back⟩ := Inv.hide I h mv
  refine thn (t pos _ s J) fun u s' ⟨v, H1, J1, r, q⟩ => ?_
  obtain ⟨n, I1⟩ := back J1
  exact ⟨v, _, I1, r, H1, q, n, rfl⟩
end
end LB
end
section
set_option autoImplicit false
set_option Elab.async false
set_option linter.all false
set_option maxRecDepth 100000
set_option maxHeartbeats 4000000
/-! Statements while one list of ours is written: judgements with that list's content. -/
namespace LB
open PySem PySem.Spec PyProof.Rows L2 LamX

section
variable {X : Cx} {T : List (Addr × Str)}
/-- slot i holds a list of ours, its content as; the other slots hold δ, read with that list set aside; from H0 on all only grew -/
def Ac (X : Cx) (T : List (Addr × Str)) (H0 : Hp) (i : Nat) (δ : List (Option PyData)) (as : List PyData) (σ : L2.St) (H : Hp) : Prop :=
  σ.length = X.N.length ∧ ∃ D xs, σ[i]? = some (some (.ref D)) ∧ H D = some (.lst xs) ∧ DpAll X.K (hid H D) xs as ∧ DS X.K (hid H D) σ δ ∧ Gw T H0 (hid H D)
/-- how statements end -/
inductive Oc where
  | nx (δ : List (Option PyData)) (as : List PyData)
  | rt (d : PyData)
  | bk (δ : List (Option PyData)) (as : List PyData)
def Oc.ok (X : Cx) (T : List (Addr × Str)) (H0 : Hp) (i : Nat) (E : Ends) : Oc → Prop
  | .nx δ as => ∀ σ H, Ac X T H0 i δ as σ H → E.nx σ H
  | .rt d => ∀ v H, Gw T H0 H → Dp X.K H v d → E.rt v H
  | .bk δ as => ∀ σ H, Ac X T H0 i δ as σ H → E.bk σ H
def Ax (X : Cx) (T : List (Addr × Str)) (i : Nat) (δ : List (Option PyData)) (as : List PyData) (st : Stmt) (o : Oc) : Prop := ∀ H0 σ H (E : Ends), Ac X T H0 i δ as σ H → o.ok X T H0 i E → svT X st E σ H
def Axs (X : Cx) (T : List (Addr × Str)) (i : Nat) (δ : List (Option PyData)) (as : List PyData) (sts : List Stmt) (o : Oc) : Prop := ∀ H0 σ H (E : Ends), Ac X T H0 i δ as σ H → o.ok X T H0 i E → ssT X sts E σ H
variable {H0 H H' : Hp} {i j : Nat} {δ δ' δ₁ : List (Option PyData)} {as as' as₁ ds : List PyData} {σ : L2.St} {e c : Expr} {es : List Expr} {st : Stmt} {sts rest thn els body : List Stmt} {d : PyData} {o : Oc} {x : Str} {px pos : Pos}
theorem Gw.un {D : Addr} {xs : List V} (g : Gw T H0 (hid H D)) (h : H D = some (.lst xs)) : Gw T H0 H := by
  refine ⟨fun b o e n => (hid_some (g.1 b o e n)).1, fun p hp => ?_, fun a o e => ?_⟩
  · obtain ⟨ps, a1, a2, a3⟩ := g.2.1 p hp
    refine ⟨ps, (hid_some a1).1, a2, fun pos cv hc => ?_⟩
    obtain ⟨c, e1, e2⟩ := a3 pos cv hc
    exact ⟨c, e1, (hid_some e2).1⟩
  · by_cases cd : a = D
    · subst cd
      rw [h] at e
      rw [← Option.some.inj e]
      exact True.intro
    · exact g.2.2 a o ((hid_ne cd).trans e)
theorem Ac.base {H1 : Hp} (g : Gw T H0 H1) (h : Ac X T H1 i δ as σ H) : Ac X T H0 i δ as σ H :=
  let ⟨l, D, xs, a, b, c, d, f⟩ := h
  ⟨l, D, xs, a, b, c, d, g.trans f⟩
theorem Ac.weak (h : Ac X T H0 i δ as σ H) (w : Sub δ' δ) : Ac X T H0 i δ' as σ H :=
  let ⟨l, D, xs, a, b, c, d, f⟩ := h
  ⟨l, D, xs, a, b, c, d.weak w, f⟩
/-- a datum while the list is set aside -/
def DpA (X : Cx) (i : Nat) (σ : L2.St) (H : Hp) (v : V) (d : PyData) : Prop := ∀ D, σ[i]? = some (some (.ref D)) → Dp X.K (hid H D) v d
theorem Ac.ev {Q : VK} (a : Ac X T H0 i δ as σ H) (h : De X T δ e d) (q : ∀ v H', Ac X T H0 i δ as σ H' → DpA X i σ H' v d → Q v H') : evT X e σ H Q := by
  obtain ⟨l, D, xs, hD, hH, dv, ds, g⟩ := a
  refine evT.mono (evT.frame hH True.intro (h σ _ l ds g.2)) fun v H' ⟨H1, ⟨g1, d1⟩, n, e⟩ => ?_
  subst e
  have hh : hid (upd H1 D (.lst xs)) D = H1 := by rw [hid_upd, hid_none n]
  refine q v _ ⟨l, D, xs, hD, upd_same, ?_, ?_, ?_⟩ fun D' hD' => ?_
  · rw [hh]
    exact DpAll.gw g1 _ _ dv
  · rw [hh]
    exact ds.gw g1
  · rw [hh]
    exact g.trans g1
  · rw [hD] at hD'
    cases hD'
    rw [hh]
    exact d1
theorem Ac.tv {b : Bool} {Q : Bool → Hp → Prop} (a : Ac X T H0 i δ as σ H) (h : Dt X T δ e b) (q : ∀ H', Ac X T H0 i δ as σ H' → Q b H') : tvT X e σ H Q := by
  obtain ⟨l, D, xs, hD, hH, dv, ds, g⟩ := a
  refine tvT.mono (tvT.frame hH True.intro (h σ _ l ds g.2)) fun v H' ⟨H1, ⟨e1, g1⟩, n, e⟩ => ?_
  subst e e1
  have hh : hid (upd H1 D (.lst xs)) D = H1 := by rw [hid_upd, hid_none n]
  refine q _ ⟨l, D, xs, hD, upd_same, ?_, ?_, ?_⟩
  · rw [hh]
    exact DpAll.gw g1 _ _ dv
  · rw [hh]
    exact ds.gw g1
  · rw [hh]
    exact g.trans g1
theorem Ac.put {v : V} (a : Ac X T H0 i δ as σ H) (hj : j < σ.length) (ne : j ≠ i) (dv : DpA X i σ H v d) : Ac X T H0 i (δ.set j (some d)) as (σ.set j (some v)) H := by
  obtain ⟨l, D, xs, hD, hH, da, ds, g⟩ := a
  exact ⟨by rw [List.length_set]; exact l, D, xs, by rw [List.getElem?_set_ne ne]; exact hD, hH, da, ds.set hj (dv D hD), g⟩
theorem DpA.put {v w : V} (ne : j ≠ i) (h : DpA X i σ H v d) : DpA X i (σ.set j (some w)) H v d := fun D hD => h D (by rw [List.getElem?_set_ne ne] at hD; exact hD)

/-! ### statements -/
theorem Axs.nil : Axs X T i δ as [] (.nx δ as) := fun H0 σ H E a q pins s I => (pss_nil (X := X)).run pins s σ H E I (q σ H a)
theorem Axs.cons (h : Ax X T i δ as st (.nx δ₁ as₁)) (hr : Axs X T i δ₁ as₁ rest o) : Axs X T i δ as (st :: rest) o := fun H0 σ H E a q pins s I =>
  (pss_cons (ps_ev (X := X)) pss_ev).run pins s σ H E I (h H0 σ H { E with nx := ssT X rest E } a fun σ' H' a' => hr H0 σ' H' E a' q)
theorem Axs.rt (h : Ax X T i δ as st (.rt d)) : Axs X T i δ as (st :: rest) (.rt d) := fun H0 σ H E a q pins s I =>
  (pss_cons (ps_ev (X := X)) pss_ev).run pins s σ H E I (h H0 σ H { E with nx := ssT X rest E } a q)
theorem Axs.bk (h : Ax X T i δ as st (.bk δ' as')) : Axs X T i δ as (st :: rest) (.bk δ' as') := fun H0 σ H E a q pins s I =>
  (pss_cons (ps_ev (X := X)) pss_ev).run pins s σ H E I (h H0 σ H { E with nx := ssT X rest E } a q)
theorem Ax.weak (h : Ax X T i δ as st (.nx δ₁ as')) (w : Sub δ' δ₁) : Ax X T i δ as st (.nx δ' as') := fun H0 σ H E a q => h H0 σ H E a fun σ' H' a' => q σ' H' (a'.weak w)
theorem Axs.weak (h : Axs X T i δ as sts (.nx δ₁ as')) (w : Sub δ' δ₁) : Axs X T i δ as sts (.nx δ' as') := fun H0 σ H E a q => h H0 σ H E a fun σ' H' a' => q σ' H' (a'.weak w)
theorem Axs.pre (w : Sub δ' δ) (h : Axs X T i δ' as sts o) : Axs X T i δ as sts o := fun H0 σ H E a q => h H0 σ H E (a.weak w) q
theorem Ax.ret (h : De X T δ e d) : Ax X T i δ as (.Return (some e) pos) (.rt d) := fun H0 σ H E a q pins s I =>
  (ps_ret (X := X) pe_ev).run pins s σ H E I (a.ev h fun v H' a' dv => by
    obtain ⟨l, D, xs, hD, hH, da, ds, g⟩ := a'
    have dd := dv D hD
    have up : Gw T (hid H' D) H' := Gw.un (Gw.refl g.2) hH
    exact q v H' (Gw.un g hH) (Dp.gw up _ _ dd))
theorem Ax.brk : Ax X T i δ as (.Break pos) (.bk δ as) := fun H0 σ H E a q pins s I => (ps_break (X := X)).run pins s σ H E I (q σ H a)
theorem Ax.ifT (hc : Dt X T δ c true) (h : Axs X T i δ as thn o) : Ax X T i δ as (.If c thn els pos) o := fun H0 σ H E a q pins s I =>
  (ps_if (X := X) pt_ev pss_ev pss_never).run pins s σ H E I (a.tv hc fun H' a' => by
    rw [if_pos rfl]
    exact h H0 σ H' E a' q)
theorem Ax.ifF (hc : Dt X T δ c false) : Ax X T i δ as (.If c thn [] pos) (.nx δ as) := fun H0 σ H E a q pins s I =>
  (ps_if (X := X) pt_ev pss_never pss_nil).run pins s σ H E I (a.tv hc fun H' a' => by
    rw [if_neg (by decide)]
    exact q σ H' a')
theorem Ax.set {pos' : Pos} (hN : X.N.Nodup) (h : De X T δ e d) (ne : j ≠ i := by decide) (hi : X.N[j]? = some x := by rfl) (hx : Loc X.env.scope x := by first | exact Or.inl rfl | exact Or.inr rfl) (hs : swapsWith e (some (.Name x pos')) pos.line X.env = pure false := by rfl)
    (hf : X.fn x = true ∨ X.env.scope.names.lookup x = some .local := by first | exact .inl rfl | exact .inr rfl) : Ax X T i δ as (.Assign [.Name x pos'] e pos) (.nx (δ.set j (some d)) as) := fun H0 σ H E a q pins s I =>
  (ps_set (X := X) hN hi hx pe_ev hs hf).run pins s σ H E I (a.ev h fun v H' a' dv => q _ _ (a'.put (lt_of_ix hi a'.1) ne dv))
/-- x += n -/
theorem Ax.inc {k : Int} {n : Int} {u : Nat} {p2 pos' : Pos} (hN : X.N.Nodup) (hd : δ[j]? = some (some (.int k)) := by rfl) (ne : j ≠ i := by decide) (hi : X.N[j]? = some x := by rfl) (hx : Loc X.env.scope x := by first | exact Or.inl rfl | exact Or.inr rfl)
    (hf : X.fn x = true ∨ X.env.scope.names.lookup x = some .local := by first | exact .inl rfl | exact .inr rfl) : Ax X T i δ as (.AugAssign (.Name x pos') .Add (.Constant (.int n) u p2) pos) (.nx (δ.set j (some (.int (k + n)))) as) := fun H0 σ H E a q pins s I => by
  refine (ps_aug (X := X) hN hi hx pe_int ip_add hf).run pins s σ H E I ?_
  obtain ⟨l, D, xs, hD, hH, da, ds, g⟩ := id a
  obtain ⟨v, hv, dv⟩ := ds j _ hd
  cases dv
  exact ⟨.int k, hv, k, n, rfl, rfl, q _ _ (a.put (lt_of_ix hi l) ne fun D' _ => .int _)⟩
/-- found.append(e) -/
theorem Ax.app {p1 p2 p3 : Pos} (h : De X T δ e d) (few : as.length < 1000) (hi : X.N[i]? = some x := by rfl) (hv : Vis X.env.scope x := by first | exact Or.inl rfl | exact Or.inr (Or.inl rfl) | exact Or.inr (Or.inr rfl))
    (h1 : (x == ("__debug__" : Str)) = false := by decide) (h2 : (x == ("__classdict__" : Str)) = false := by decide)
    (hbase : attributeBase (.Name x p1) "append" X.env (eval (.Name x p1) X.env) = eval (.Name x p1) X.env := by rfl)
    (hfew : ((backTo p3 (starEach (e :: []) X.env)).all (fun x => !x.1) && (backToKw p3 (keywordEach [] X.env)).all (fun x => x.1.isSome)
      && decide ((e :: []).length + ([] : List Keyword).length + (if ([] : List Keyword).isEmpty then 0 else 1) < 30)) = true := by rfl)
    (hline : (p2.endLine == p3.line) = true := by rfl) (hs : starEach (e :: []) X.env = (false, eval e X.env) :: starEach [] X.env := by rfl) (hplain : (backTo p3 (starEach [] X.env)).any (·.1) = false := by rfl)
    (hsw : swapsWith (.Call (.Attribute (.Name x p1) "append" p2) [e] [] p3) none pos.line X.env = pure false := by rfl) : Ax X T i δ as (.Expr (.Call (.Attribute (.Name x p1) "append" p2) [e] [] p3) pos) (.nx δ (as ++ [d])) := fun H0 σ H E a q pins s I => by
  refine (ps_expr (X := X) (pe_bm PySem.F.plainAttrs_list PySem.F.slot_list_append PySem.F.type_list_append mt_append (pe_var hi hv h1 h2) (pa_cons pe_ev pa_nil hs) hbase hfew hline hs hplain) hsw).run pins s σ H E I ?_
  obtain ⟨l, D, xs, hD, hH, da, ds, g⟩ := id a
  refine ⟨_, hD, .inl ⟨rfl, xs, SqL.of hH⟩, a.ev h fun v H' a' dv => ?_⟩
  obtain ⟨l', D', xs', hD', hH', da', ds', g'⟩ := a'
  rw [hD] at hD'
  cases hD'
  refine ⟨D, xs', v, rfl, rfl, hH', ?_, q _ _ ⟨l, D, xs' ++ [v], hD, upd_same, ?_, ?_, ?_⟩⟩
  · rw [dpAll_len da', sizeLine_eq]
    omega
  · rw [hid_upd]
    exact dpAll_snoc da' (dv D hD)
  · rw [hid_upd]
    exact ds'
  · rw [hid_upd]
    exact g'
end
end LB
end
section
set_option autoImplicit false
set_option Elab.async false
set_option linter.all false
set_option maxRecDepth 100000
set_option maxHeartbeats 4000000
/-! Loops, starts and ends of a list of ours. -/
namespace LB
open PySem PySem.Spec PyProof.Rows L2 LamX

section
variable {X : Cx} {T : List (Addr × Str)} {H0 Hb H H' : Hp} {i j : Nat} {δ δ' δ₁ : List (Option PyData)} {as as' as₁ ds : List PyData} {σ : L2.St} {e c iter : Expr} {es : List Expr} {st : Stmt} {sts rest thn els body : List Stmt} {d : PyData} {o : Oc} {x : Str} {p px pos p2 p3 : Pos}
abbrev Stt := List (Option PyData) × List PyData
/-- how a loop ends: all turns ran, or turn n left it -/
def LpEnd (X : Cx) (T : List (Addr × Str)) (i j : Nat) (body : List Stmt) (ds : List PyData) (S : Nat → Stt) (n : Nat) (o : Oc) : Prop :=
  (n = ds.length ∧ o = .nx (S n).1 (S n).2) ∨ ∃ d, ds[n]? = some d ∧ ((∃ d', o = .rt d' ∧ Axs X T i ((S n).1.set j (some d)) (S n).2 body (.rt d')) ∨ ∃ δ' as', o = .nx δ' as' ∧ Axs X T i ((S n).1.set j (some d)) (S n).2 body (.bk δ' as'))
theorem for_core {J : It} {n0 n : Nat} {G : Hp → Prop} {Y : Nat → Hp → V → Hp → Prop} (W : Walk J n0 G Y) {E : Ends} (S : Nat → Stt) (a : Ac X T Hb i (S 0).1 (S 0).2 σ H) (hG : ∀ H, Gw T Hb H → G H) (hl : ds.length = n0) (hy : ∀ k v H H', k < n0 → Y k H v H' → H' = H ∧ ∃ d, ds[k]? = some d ∧ Dp X.K Hb v d)
    (hj : X.N[j]? = some x) (ne : j ≠ i) (hn : n ≤ ds.length) (hb : ∀ k d, k < n → ds[k]? = some d → Axs X T i ((S k).1.set j (some d)) (S k).2 body (.nx (S (k + 1)).1 (S (k + 1)).2)) (fin : LpEnd X T i j body ds S n o) (q : o.ok X T Hb i E) :
    ∃ W : Nat → Nat → L2.St → Hp → Prop, (∃ m, W 0 m σ H) ∧ ∀ i m σ H, W i m σ H →
      (J.stop i H ∧ E.nx σ H) ∨ (J.go i H ∧ ∃ N : L2.St → Hp → Prop, (∀ σ' H', N σ' H' → ∃ m', m' < m ∧ W (i + 1) m' σ' H') ∧ ∀ x H', J.yld i H x H' → gName j x σ H' fun σ2 H2 => ssT X body { E with nx := N, ct := N, bk := E.nx } σ2 H2) := by
  refine for_it W (fun k σ H => k ≤ n ∧ Ac X T Hb i (S k).1 (S k).2 σ H) ⟨Nat.zero_le _, a⟩ (fun k σ H _ p => ?_) (fun k v σ H H' hk p y => ?_) fun σ H p => ?_
  · obtain ⟨_, l, D, xs, hD, hH, _, _, g⟩ := p
    exact hG H (Gw.un g hH)
  · obtain ⟨hkn, ak⟩ := p
    obtain ⟨rfl, d, hd, dv⟩ := hy k v H H' hk y
    have ak2 := ak.put (v := v) (d := d) (lt_of_ix hj ak.1) ne fun D hD => by
      obtain ⟨l, D', xs, hD', hH, _, _, g⟩ := ak
      rw [hD'] at hD
      cases hD
      exact Dp.gw g _ _ dv
    show ssT X body _ (σ.set j (some v)) H'
    by_cases c : k < n
    · exact hb k d c hd Hb _ _ _ ak2 fun σ' H2 a2 => ⟨c, a2⟩
    · have e : k = n := by omega
      subst e
      rcases fin with ⟨e, _⟩ | ⟨d2, hd2, fin⟩
      · omega
      · rw [hd] at hd2
        cases hd2
        rcases fin with ⟨d', rfl, B⟩ | ⟨δ', as', rfl, B⟩
        · exact B Hb _ _ _ ak2 q
        · exact B Hb _ _ _ ak2 q
  · obtain ⟨hkn, ak⟩ := p
    rcases fin with ⟨e, rfl⟩ | ⟨d2, hd2, _⟩
    · rw [← hl, ← e] at ak
      exact q σ H ak
    · have := (List.getElem?_eq_some_iff.mp hd2).1
      omega
theorem Ac.rebase (a : Ac X T H0 i δ as σ H) : ∃ Hb, Gw T H0 Hb ∧ Ac X T Hb i δ as σ H ∧ ∀ v d, DpA X i σ H v d → Dp X.K Hb v d := by
  obtain ⟨l, D, xs, hD, hH, da, ds, g⟩ := a
  exact ⟨hid H D, g, ⟨l, D, xs, hD, hH, da, ds, Gw.refl g.2⟩, fun v d h => h D hD⟩
theorem Oc.ok.base {E : Ends} (g : Gw T H0 Hb) (q : o.ok X T H0 i E) : o.ok X T Hb i E := by
  cases o with
  | nx δ as => exact fun σ H a => q σ H (a.base g)
  | rt d => exact fun v H g2 dv => q v H (g.trans g2) dv
  | bk δ as => exact fun σ H a => q σ H (a.base g)
/-- for x in a tuple or a list -/
theorem Ax.for_ {n : Nat} (hp : PassesOwn (model X.prog X.w) X.A X.env X.xe) (hc : X.calm = true) (S : Nat → Stt) (h0 : S 0 = (δ, as)) (hi : De X T δ iter (.tuple ds) ∨ De X T δ iter (.list ds)) (hn : n ≤ ds.length)
    (hb : ∀ k d, k < n → ds[k]? = some d → Axs X T i ((S k).1.set j (some d)) (S k).2 body (.nx (S (k + 1)).1 (S (k + 1)).2)) (fin : LpEnd X T i j body ds S n o) (ne : j ≠ i := by decide) (hx : X.N[j]? = some x := by rfl) (hg : PG X (.Name x px) (gName j) := by first | exact pg_name (by decide) rfl (Or.inl rfl) | skip)
    (hs : ∀ x, foldedSetIterable iter X.env x = pure x := by intro _; rfl) : Ax X T i δ as (.For (.Name x px) iter body [] pos) o := fun H0 σ H E a q pins s I => by
  have e1 : (S 0).1 = δ := by rw [h0]
  have e2 : (S 0).2 = as := by rw [h0]
  have look : ∀ {Hb : Hp} {xs : List V}, DpAll X.K Hb xs ds → ∀ k v (H H' : Hp), k < xs.length → YAt xs k H v H' → H' = H ∧ ∃ d, ds[k]? = some d ∧ Dp X.K Hb v d := fun {Hb xs} hv k v H H' hk y => by
    obtain ⟨rfl, hy⟩ := y
    have hk2 : k < ds.length := by rw [← dpAll_len hv]; exact hk
    obtain ⟨v', hv', dp⟩ := dpAll_get hv (List.getElem?_eq_getElem hk2)
    rw [hy] at hv'
    cases hv'
    exact ⟨rfl, _, List.getElem?_eq_getElem hk2, dp⟩
  rcases hi with hi | hi
  · refine (ps_for (X := X) hp hc (pi_tup pe_ev) hg pss_ev hs).run pins s σ H E I (a.ev hi fun v H' a' dv => ?_)
    obtain ⟨Hb, g, ab, back⟩ := a'.rebase
    have dv2 := back v _ dv
    cases dv2 with
    | @tup ad xs _ hq hv =>
      have hq1 : ∀ H, Gw T Hb H → SqT X.K H ad xs := fun H g => SqT.gw hq g
      have hH : Gw T Hb H' := by
        obtain ⟨_, D, ys, _, hD, _, _, g2⟩ := ab
        exact Gw.un g2 hD
      exact ⟨ad, rfl, ⟨xs, hq1 _ hH⟩, for_core walk_tup S (by rw [e1, e2]; exact ab) hq1 (dpAll_len hv).symm (look hv) hx ne hn hb fin (q.base g)⟩
  · refine (ps_for (X := X) hp hc (pi_list pe_ev) hg pss_ev hs).run pins s σ H E I (a.ev hi fun v H' a' dv => ?_)
    obtain ⟨Hb, g, ab, back⟩ := a'.rebase
    have dv2 := back v _ dv
    cases dv2 with
    | @lst ad xs _ hq hv =>
      have hq1 : ∀ H, Gw T Hb H → SqL X.K H ad xs := fun H g => SqL.gw hq g
      have hH : Gw T Hb H' := by
        obtain ⟨_, D, ys, _, hD, _, _, g2⟩ := ab
        exact Gw.un g2 hD
      exact ⟨ad, rfl, ⟨xs, hq1 _ hH⟩, for_core walk_list S (by rw [e1, e2]; exact ab) hq1 (dpAll_len hv).symm (look hv) hx ne hn hb fin (q.base g)⟩
def upto (n : Nat) : List PyData := (List.range n).map fun k => .int (k : Nat)
/-- for x in range(m) -/
theorem Ax.forR {n m : Nat} (fr : Free X.mg) (hp : PassesOwn (model X.prog X.w) X.A X.env X.xe) (hc : X.calm = true) (S : Nat → Stt) (h0 : S 0 = (δ, as)) (hi : De X T δ e (.int (m : Nat))) (few : m ≤ 1000) (hn : n ≤ m)
    (hb : ∀ k, k < n → Axs X T i ((S k).1.set j (some (.int (k : Nat)))) (S k).2 body (.nx (S (k + 1)).1 (S (k + 1)).2)) (fin : LpEnd X T i j body (upto m) S n o) (ne : j ≠ i := by decide) (hx : X.N[j]? = some x := by rfl) (hg : PG X (.Name x px) (gName j) := by first | exact pg_name (by decide) rfl (Or.inl rfl) | skip)
    (hgr : Gl X "range" := by rfl) (he : starEach [e] X.env = [(false, eval e X.env)] := by rfl) (hs : ∀ x, foldedSetIterable (.Call (.Name "range" p) [e] [] p2) X.env x = pure x := by intro _; rfl) : Ax X T i δ as (.For (.Name x px) (.Call (.Name "range" p) [e] [] p2) body [] pos) o := fun H0 σ H E a q pins s I => by
  have e1 : (S 0).1 = δ := by rw [h0]
  have e2 : (S 0).2 = as := by rw [h0]
  have lu : (upto m).length = m := by unfold upto; rw [List.length_map, List.length_range]
  have at_ : ∀ k, k < m → (upto m)[k]? = some (.int (k : Nat)) := fun k hk => by
    unfold upto
    rw [List.getElem?_map, List.getElem?_range hk]
    rfl
  refine (ps_for (X := X) hp hc (pi_range1 hgr (fr _ (by decide)) (pa_cons pe_ev pa_nil he) he) hg pss_ev hs).run pins s σ H E I (a.ev hi fun v H' a' dv => ?_)
  obtain ⟨Hb, g, ab, back⟩ := a'.rebase
  have dv2 := back v _ dv
  cases dv2
  refine ⟨(m : Int), rfl, by omega, by omega, ?_⟩
  exact for_core (ds := upto m) (walk_range (lo := 0) (n := m)) S (by rw [e1, e2]; exact ab) (fun _ _ => trivial) lu (fun k v H H' hk y => ⟨y.1, _, at_ k hk, by
    rw [y.2]
    show Dp X.K Hb (.int (0 + (k : Int))) _
    rw [Int.zero_add]
    exact .int _⟩) hx ne (by rw [lu]; exact hn)
    (fun k d hk hd => by
      rw [at_ k (Nat.lt_of_lt_of_le hk hn)] at hd
      cases hd
      exact hb k hk) fin (q.base g)
/-! ### more statements -/
def rExtS (K : PySem.W.Frag) : V → List V → Hp → VK → Prop := fun x vs H Q => ∃ l b xs zs, x = .ref l ∧ vs = [.ref b] ∧ H l = some (.lst xs) ∧ SqL K H b zs ∧ xs.length + zs.length ≤ sizeLine ∧ Q .non (upd H l (.lst (xs ++ zs)))
theorem meets_ext (l : Addr) (us : Array Value) (n : Nat) (b : Addr) (ws : Array Value) (n2 : Nat) (sl : Array (Option Value)) (h1 : ¬(!us.isEmpty && Builtin.List.listTooLong (us.size + ws.size)) = true) (h2 : us.size ≤ sizeLine) (h3 : us.size + ws.size ≤ sizeLine + 1) :
    Meets (Builtin.«list.extend» ⟨[.ref l, .ref b], []⟩) (fun _ R s => s.heap.get? l = some { cls := .type "list", dict := none, data := .seq us n, slots := #[] } ∧ s.heap.get? b = some { cls := .type "list", dict := none, data := .seq ws n2, slots := sl } ∧
      R (.ok (.ret Value.none)) { s with heap := s.heap.update l (Obj.mapSeq fun x => x ++ ws), toks := s.toks }) :=
  .of_wp fun prog w A R s h => by
    obtain ⟨hp, g, d, tk, os⟩ := s
    obtain ⟨hl, hb, h⟩ := h
    have f1 := AutoSeq1.idx_int
    have f2 := AutoSeq1.sub_tuple_tuple
    have f3 := AutoSeq1.sub_list_list
    have f4 := AutoSeq1.sub_tuple_list
    have f5 := AutoSeq1.sub_list_tuple
    have z : (us ++ ws).size ≤ sizeLine + 1 := Array.size_append ▸ h3
    wp_walk using (wpAny_updateSeq hl rfl (hz := h2) (_hz' := z)), AutoSeq1.wpAny_loadPart' hl, AutoSeq1.wpAny_loadPart' hb
    exact ⟨_, rfl, h⟩
theorem mt_extS : MtM X "list.extend" (rExtS X.K) := by
  rintro pins s σ H x vs v us Q I rx rv ⟨l, b, xs, zs, rfl, rfl, hH, hB, hz, q⟩
  cases rx
  obtain ⟨u, rfl, ru⟩ := rv.one
  cases ru
  obtain ⟨z, its, n, r, hl, e⟩ := I.lstM hH
  obtain ⟨its2, r2, ⟨⟨cls, dd, dt, sl⟩, n2, e2, c2, d2, f2⟩, z2⟩ := I.list hB
  simp only at c2 d2 f2
  subst c2 d2 f2
  have l2 := r2.length
  have hsz : its.toArray.size + its2.toArray.size ≤ sizeLine := by rw [List.size_toArray, List.size_toArray]; omega
  refine call_meets F.slot_list_extend ⟨_, e, rfl⟩ F.entry_list_extend (F.args_list_extend_2 _ _)
    (meets_ext l its.toArray n b its2.toArray n2 sl (by rw [notLongL hsz, Bool.and_false]; exact Bool.false_ne_true) (by rw [List.size_toArray]; omega) (by omega)) ⟨e, e2, ?_⟩
  refine ⟨.non, _, I.lset (its' := its ++ its2) hH e (by simp) (r.append r2) ?_, rfl, q⟩
  rw [List.length_append]
  exact hz
/-- found.extend(e) -/
theorem Ax.ext {p1 p2 p3 : Pos} (h : De X T δ e (.list ds)) (few : as.length + ds.length ≤ 1000) (hi : X.N[i]? = some x := by rfl) (hv : Vis X.env.scope x := by first | exact Or.inl rfl | exact Or.inr (Or.inl rfl) | exact Or.inr (Or.inr rfl))
    (h1 : (x == ("__debug__" : Str)) = false := by decide) (h2 : (x == ("__classdict__" : Str)) = false := by decide)
    (hbase : attributeBase (.Name x p1) "extend" X.env (eval (.Name x p1) X.env) = eval (.Name x p1) X.env := by rfl)
    (hfew : ((backTo p3 (starEach (e :: []) X.env)).all (fun x => !x.1) && (backToKw p3 (keywordEach [] X.env)).all (fun x => x.1.isSome)
      && decide ((e :: []).length + ([] : List Keyword).length + (if ([] : List Keyword).isEmpty then 0 else 1) < 30)) = true := by rfl)
    (hline : (p2.endLine == p3.line) = true := by rfl) (hs : starEach (e :: []) X.env = (false, eval e X.env) :: starEach [] X.env := by rfl) (hplain : (backTo p3 (starEach [] X.env)).any (·.1) = false := by rfl)
    (hsw : swapsWith (.Call (.Attribute (.Name x p1) "extend" p2) [e] [] p3) none pos.line X.env = pure false := by rfl) : Ax X T i δ as (.Expr (.Call (.Attribute (.Name x p1) "extend" p2) [e] [] p3) pos) (.nx δ (as ++ ds)) := fun H0 σ H E a q pins s I => by
  refine (ps_expr (X := X) (pe_bm PySem.F.plainAttrs_list PySem.F.slot_list_extend PySem.F.type_list_extend mt_extS (pe_var hi hv h1 h2) (pa_cons pe_ev pa_nil hs) hbase hfew hline hs hplain) hsw).run pins s σ H E I ?_
  obtain ⟨l, D, xs, hD, hH, da, ds', g⟩ := id a
  refine ⟨_, hD, .inl ⟨rfl, xs, SqL.of hH⟩, a.ev h fun v H' a' dv => ?_⟩
  obtain ⟨l', D', xs', hD', hH', da', ds', g'⟩ := a'
  rw [hD] at hD'
  cases hD'
  have dv2 := dv D hD
  cases dv2 with
  | @lst b zs _ hq hz =>
    have up : Gw T (hid H' D) H' := Gw.un (Gw.refl g'.2) hH'
    refine ⟨D, b, xs', zs, rfl, rfl, hH', SqL.gw hq up, ?_, q _ _ ⟨l, D, xs' ++ zs, hD, upd_same, ?_, ?_, ?_⟩⟩
    · rw [dpAll_len da', dpAll_len hz, sizeLine_eq]
      omega
    · rw [hid_upd]
      clear hq dv
      have app : ∀ {vs : List V} {ds1 : List PyData}, DpAll X.K (hid H' D) vs ds1 → DpAll X.K (hid H' D) (vs ++ zs) (ds1 ++ ds) := by
        intro vs ds1 h1
        induction vs generalizing ds1 with
        | nil => cases h1; exact hz
        | cons v vs ih =>
          cases h1 with
          | cons a b => exact .cons a (ih b)
      exact app da'
    · rw [hid_upd]
      exact ds'
    · rw [hid_upd]
      exact g'
/-- return found -/
theorem Ac.out {Q : VK} (a : Ac X T H0 i δ as σ H) (q : ∀ v, Gw T H0 H → Dp X.K H v (.list as) → Q v H) (hi : X.N[i]? = some x) (hv : Vis X.env.scope x) (h1 : (x == ("__debug__" : Str)) = false) (h2 : (x == ("__classdict__" : Str)) = false) (p : Pos) : evT X (.Name x p) σ H Q := fun pins s I => by
  refine (pe_var (X := X) hi hv h1 h2).run pins s σ H _ I ?_
  obtain ⟨l, D, xs, hD, hH, da, ds, g⟩ := a
  have up : Gw T (hid H D) H := Gw.un (Gw.refl g.2) hH
  exact ⟨_, hD, q _ (Gw.un g hH) (.lst (SqL.of hH) (DpAll.gw up _ _ da))⟩
theorem Ax.retL {p1 : Pos} (hi : X.N[i]? = some x := by rfl) (hv : Vis X.env.scope x := by first | exact Or.inl rfl | exact Or.inr (Or.inl rfl) | exact Or.inr (Or.inr rfl))
    (h1 : (x == ("__debug__" : Str)) = false := by decide) (h2 : (x == ("__classdict__" : Str)) = false := by decide) : Ax X T i δ as (.Return (some (.Name x p1)) pos) (.rt (.list as)) := fun H0 σ H E a q pins s I =>
  (ps_ret (X := X) pe_ev).run pins s σ H E I (a.out (fun v g d => q v H g d) hi hv h1 h2 p1)
/-- return tuple(found) -/
theorem Ax.retT {p1 p4 : Pos} (fr : Free X.mg) (hi : X.N[i]? = some x := by rfl) (hv : Vis X.env.scope x := by first | exact Or.inl rfl | exact Or.inr (Or.inl rfl) | exact Or.inr (Or.inr rfl))
    (h1 : (x == ("__debug__" : Str)) = false := by decide) (h2 : (x == ("__classdict__" : Str)) = false := by decide) (hg : Gl X "tuple" := by rfl) (he : starEach [.Name x p1] X.env = (false, eval (.Name x p1) X.env) :: starEach [] X.env := by rfl) :
    Ax X T i δ as (.Return (some (.Call (.Name "tuple" p4) [.Name x p1] [] p2)) pos) (.rt (.tuple as)) := fun H0 σ H E a q pins s I => by
  obtain ⟨l, D, xs, hD, hH, da, ds, g⟩ := id a
  have up : Gw T (hid H D) H := Gw.un (Gw.refl g.2) hH
  have g0 : Gw T H0 H := Gw.un g hH
  refine (ps_ret (X := X) (pe_callTy call_tupN hg (fr _ (by decide)) boot_tuple (pa_cons (pe_var hi hv h1 h2) pa_nil he) (by decide) (by decide) he (by rfl))).run pins s σ H E I ?_
  refine ⟨_, hD, D, xs, rfl, SqL.of hH, fun p o hp nd => ?_⟩
  have z := lay_tup hp nd (DpAll.gw up _ _ da) g0.2
  exact q _ _ (g0.trans z.1) z.2
/-- a list of ours is made: the rest of the body -/
theorem Dr.start {p1 pos' : Pos} (hN : X.N.Nodup) (h : Da X T δ es ds) (few : ds.length ≤ 1000) (hr : Axs X T i δ ds rest (.rt d)) (hδ : ∀ d, δ[i]? ≠ some (some d)) (hi : X.N[i]? = some x := by rfl) (hx : Loc X.env.scope x := by first | exact Or.inl rfl | exact Or.inr rfl)
    (hs : swapsWith (.List es p1) (some (.Name x pos')) pos.line X.env = pure false := by rfl) (hf : X.fn x = true ∨ X.env.scope.names.lookup x = some .local := by first | exact .inl rfl | exact .inr rfl) : Dr X T δ (.Assign [.Name x pos'] (.List es p1) pos :: rest) d :=
  Dr.of (pss_cons (ps_set hN hi hx (pe_lst pa_ev) hs hf) pss_ev) fun σ H D hl hd t q => h.go hl hd t fun vs H1 g1 dv => ⟨few_line dv few, fun p hp => by
    have hh : hid (upd H1 p (.lst vs)) p = H1 := by rw [hid_upd, hid_none hp]
    refine hr H1 _ _ D ⟨by rw [List.length_set]; exact hl, p, vs, ?_, upd_same, by rw [hh]; exact dv, ?_, by rw [hh]; exact Gw.refl g1.2⟩ fun v H2 g2 d2 => q v H2 (g1.trans g2) d2
    · rw [List.getElem?_set_self (lt_of_ix hi hl)]
    · rw [hh]
      intro k d0 hk
      have ne : i ≠ k := fun z => hδ d0 (by rw [z]; exact hk)
      rw [List.getElem?_set_ne ne]
      exact (hd.gw g1) k d0 hk⟩
end
end LB
end
section
set_option autoImplicit false
set_option Elab.async false
set_option linter.all false
set_option maxRecDepth 100000
set_option maxHeartbeats 4000000
/-! Comprehensions over anything, of anything: the list that is built is set aside in each turn. -/
namespace LB
open PySem PySem.Spec PyProof.Rows L2 LamX

def sets (σ : L2.St) (l : List (Nat × V)) : L2.St := l.foldl (fun σ p => σ.set p.1 (some p.2)) σ
def bindD (δ : List (Option PyData)) (b : List (Nat × PyData)) : List (Option PyData) := b.foldl (fun δ p => δ.set p.1 (some p.2)) δ
def wipeD (δ : List (Option PyData)) : List Nat → List (Option PyData)
  | [] => δ
  | v :: vs => (wipeD δ vs).set v none
inductive DpB (K : PySem.W.Frag) (H : Hp) : List (Nat × V) → List (Nat × PyData) → Prop
  | nil : DpB K H [] []
  | cons {i : Nat} {v : V} {d : PyData} {l b} : Dp K H v d → DpB K H l b → DpB K H ((i, v) :: l) ((i, d) :: b)
section
variable {K : PySem.W.Frag} {T : List (Addr × Str)} {H H' H1 : Hp} {σ : L2.St} {δ : List (Option PyData)}
theorem DpB.gw {l : List (Nat × V)} {b : List (Nat × PyData)} (h : DpB K H l b) (g : Gw T H H') : DpB K H' l b := by
  induction h with
  | nil => exact .nil
  | cons a _ ih => exact .cons (Dp.gw g _ _ a) ih
theorem DpB.slots {l : List (Nat × V)} {b : List (Nat × PyData)} (h : DpB K H l b) : l.map (·.1) = b.map (·.1) := by
  induction h with
  | nil => rfl
  | cons a _ ih => simp only [List.map_cons, ih]
theorem sets_len : ∀ (l : List (Nat × V)) (σ : L2.St), (sets σ l).length = σ.length
  | [], _ => rfl
  | p :: l, σ => by
    show (sets (σ.set p.1 (some p.2)) l).length = _
    rw [sets_len l, List.length_set]
theorem DS.sets {l : List (Nat × V)} {b : List (Nat × PyData)} (h : DpB K H l b) : ∀ {σ : L2.St} {δ : List (Option PyData)}, DS K H σ δ → (∀ i ∈ l.map (·.1), i < σ.length) → DS K H (LB.sets σ l) (bindD δ b) := by
  induction h with
  | nil => exact fun hd _ => hd
  | @cons i v d l b a _ ih =>
    intro σ δ hd hl
    exact ih (hd.set (hl i (by simp)) a) fun k hk => by rw [List.length_set]; exact hl k (by simp only [List.map_cons, List.mem_cons]; exact .inr hk)
theorem DS.wipe (hd : DS K H σ δ) : ∀ vs : List Nat, DS K H (L2.wipe σ vs) (wipeD δ vs)
  | [] => hd
  | v :: vs => fun i d h => by
    show ∃ w, ((L2.wipe σ vs).set v none)[i]? = some (some w) ∧ _
    have h : ((wipeD δ vs).set v none)[i]? = some (some d) := h
    by_cases c : v = i
    · subst c
      rw [List.getElem?_set] at h
      rw [if_pos rfl] at h
      split at h <;> cases h
    · rw [List.getElem?_set_ne c] at h ⊢
      exact DS.wipe hd vs i d h
theorem wipe_set {i : Nat} {w : Option V} : ∀ {vs : List Nat} {σ : L2.St}, i ∈ vs → L2.wipe (σ.set i w) vs = L2.wipe σ vs
  | v :: vs, σ, h => by
    show (L2.wipe (σ.set i w) vs).set v none = (L2.wipe σ vs).set v none
    by_cases m : i ∈ vs
    · rw [wipe_set m]
    · have e : v = i := by
        rcases List.mem_cons.mp h with z | z
        · exact z.symm
        · exact absurd z m
      subst e
      have out : ∀ (us : List Nat) (τ : L2.St), v ∉ us → L2.wipe (τ.set v w) us = (L2.wipe τ us).set v w := by
        intro us
        induction us with
        | nil => intro τ _; rfl
        | cons u us ih =>
          intro τ hu
          show (L2.wipe (τ.set v w) us).set u none = ((L2.wipe τ us).set u none).set v w
          rw [ih τ (fun z => hu (List.mem_cons_of_mem _ z))]
          exact List.set_comm _ _ (fun z => hu (by rw [z]; exact List.mem_cons_self))
      rw [out vs σ m, List.set_set]
theorem wipe_sets {vs : List Nat} : ∀ (l : List (Nat × V)) (σ : L2.St), (∀ i ∈ l.map (·.1), i ∈ vs) → L2.wipe (sets σ l) vs = L2.wipe σ vs
  | [], _, _ => rfl
  | p :: l, σ, h => by
    show L2.wipe (sets (σ.set p.1 (some p.2)) l) vs = _
    rw [wipe_sets l _ fun i hi => h i (by simp only [List.map_cons, List.mem_cons]; exact .inr hi), wipe_set (h p.1 (by simp))]
theorem wipe_wipe {vs : List Nat} (σ : L2.St) : ∀ us : List Nat, (∀ i ∈ us, i ∈ vs) → L2.wipe (L2.wipe σ us) vs = L2.wipe σ vs
  | [], _ => rfl
  | u :: us, h => by
    show L2.wipe ((L2.wipe σ us).set u none) vs = _
    rw [wipe_set (h u List.mem_cons_self), wipe_wipe σ us fun i hi => h i (List.mem_cons_of_mem _ hi)]
/-- growth with a list set aside -/
theorem Gw.hid {D : Addr} {xs : List V} (g : Gw T H H') (h : H D = some (.lst xs)) : Gw T (LB.hid H D) (LB.hid H' D) := by
  have h' := g.lst h
  refine ⟨fun b o e n => ?_, fun p hp => ?_, fun a o e => g.2.2 a o (hid_some e).1⟩
  · obtain ⟨e1, nb⟩ := hid_some e
    exact (hid_ne nb).trans (g.1 b o e1 n)
  · obtain ⟨ps, a1, a2, a3⟩ := g.2.1 p hp
    have n1 : p.1 ≠ D := fun z => by
      rw [z, h'] at a1
      cases a1
    refine ⟨ps, (hid_ne n1).trans a1, a2, fun pos cv hc => ?_⟩
    obtain ⟨c, e1, e2⟩ := a3 pos cv hc
    have n2 : c ≠ D := fun z => by
      rw [z, h'] at e2
      cases e2
    exact ⟨c, e1, (hid_ne n2).trans e2⟩
end

section
variable {X : Cx} {T : List (Addr × Str)} {δ : List (Option PyData)} {elt iter t tg : Expr} {ifs : List Expr} {scope : Scope} {x : Str} {px pos p p2 : Pos} {ds : List PyData} {tt : TT} {wi : TI} {g : TG} {slots : List Nat} {items : List (List (Nat × PyData))}
/-- what a turn gives: values for the slots, of the datum items[j] -/
def YOk (X : Cx) (T : List (Addr × Str)) (g : TG) (slots : List Nat) (items : List (List (Nat × PyData))) (H1 : Hp) (Y : Nat → Hp → V → Hp → Prop) : Prop :=
  ∀ j H x H', Gw T H1 H → j < items.length → Y j H x H' → Gw T H H' ∧ ∃ b l, items[j]? = some b ∧ b.map (·.1) = slots ∧ DpB X.K H1 l b ∧ ∀ σ R, R (sets σ l) H' → g x σ H' R
def ItD (X : Cx) (T : List (Addr × Str)) (δ : List (Option PyData)) (wi : TI) (g : TG) (slots : List Nat) (items : List (List (Nat × PyData))) : Prop :=
  ∀ (σ : L2.St) (H : Hp) (R : It → Hp → Prop), σ.length = X.N.length → DS X.K H σ δ → Tabs T H →
    (∀ (J : It) (H1 : Hp) (G : Hp → Prop) (Y : Nat → Hp → V → Hp → Prop), Gw T H H1 → Walk J items.length G Y → (∀ H2, Gw T H1 H2 → G H2) → YOk X T g slots items H1 Y → R J H1) → wi σ H R
/-- the tests of a comprehension, on data -/
structure Ift (X : Cx) (T : List (Addr × Str)) (scope : Scope) (ifs : List Expr) (tt : TT) (ok : List (Option PyData) → Bool → Prop) : Prop extends Ifs X T scope ifs tt ok where
  frame : ∀ {σ : L2.St} {H : Hp} {D : Addr} {o : HO} {Q : Bool → Hp → Prop}, H D = some o → Mv o → tt σ (hid H D) Q → tt σ H fun b H' => ∃ H1, Q b H1 ∧ H1 D = none ∧ H' = upd H1 D o
theorem ift_nil : Ift X T scope [] tYes (fun _ b => b = true) where
  toIfs := ifs_nil
  frame := fun {σ H D o Q} h mv z => ⟨hid H D, z, hid_self, (upd_hid h).symm⟩
theorem ift_one : Ift X T scope [t] (btT X scope t) (fun δ b => TstOk X T scope δ t b) where
  toIfs := ifs_one
  frame := fun h mv z s H0 C cl fp => tvT.frame h mv (z s H0 C cl fp)
theorem bvT.frame {σ : L2.St} {H : Hp} {D : Addr} {o : HO} {Q : VK} (h : H D = some o) (mv : Mv o) (z : bvT X scope elt σ (hid H D) Q) : bvT X scope elt σ H fun v H' => ∃ H1, Q v H1 ∧ H1 D = none ∧ H' = upd H1 D o := fun s H0 C cl fp => evT.frame h mv (z s H0 C cl fp)
theorem lc_go {ok : List (Option PyData) → Bool → Prop} {σ : L2.St} {H : Hp} {Q : VK} {out : Nat → Option PyData} (I : ItD X T δ wi g slots items) (F : Ift X T scope ifs tt ok) (few : items.length ≤ 1000) (sl : ∀ i ∈ slots, i < X.N.length)
    (htest : ∀ j b, items[j]? = some b → ok (bindD (wipeD δ slots) b) (out j).isSome) (helt : ∀ j b e, items[j]? = some b → out j = some e → EltOk X T scope (bindD (wipeD δ slots) b) elt e)
    (hl : σ.length = X.N.length) (hd : DS X.K H σ δ) (t : Tabs T H) (q : ∀ v H', Gw T H H' → Dp X.K H' v (.list ((List.range items.length).filterMap out)) → Q v H') : tLc wi g tt (bvT X scope elt) slots σ H Q := by
  refine I σ H _ hl hd t fun J H1 G Y g1 W hG y D hD => ?_
  refine lc_it W (fun j H => ∃ acc, H D = some (.lst acc) ∧ Gw T H1 (hid H D) ∧ DpAll X.K (hid H D) acc ((List.range j).filterMap out)) ⟨[], upd_same, ?_, .nil⟩ (fun j H _ ⟨acc, hacc, gg, _⟩ => hG H (Gw.un gg hacc)) (fun j x H2 H' hj p yy => ?_) fun H2 p => ?_
  · rw [hid_upd, hid_none hD]
    exact Gw.refl g1.2
  · obtain ⟨acc, hacc, gg, dacc⟩ := p
    obtain ⟨g2, b, l, hb, hs, dl, gset⟩ := y j H2 x H' (Gw.un gg hacc) hj yy
    have hacc' := g2.lst hacc
    have gh := g2.hid hacc
    have slo : ∀ i ∈ l.map (·.1), i ∈ slots := fun i hi => by
      rw [dl.slots, hs] at hi
      exact hi
    refine gset _ _ ⟨?_, ?_⟩
    · rw [wipe_sets l _ slo, wipe_wipe σ slots fun _ h => h]
    · have len2 : (sets (L2.wipe σ slots) l).length = X.N.length := by rw [sets_len, wipe_length]; exact hl
      have ds2 : DS X.K (hid H' D) (sets (L2.wipe σ slots) l) (bindD (wipeD δ slots) b) :=
        DS.sets (DpB.gw dl (gg.trans gh)) ((hd.gw (g1.trans (gg.trans gh))).wipe slots) fun i hi => by
          rw [wipe_length, hl]
          exact sl i (slo i hi)
      have tst := F.on _ _ (htest j b hb) (sets (L2.wipe σ slots) l) (hid H' D) len2 ds2 gh.2
      refine F.mono _ _ _ _ (fun bb H3 z => ?_) (F.frame hacc' True.intro tst)
      obtain ⟨H4, ⟨eb, g4⟩, n4, e3⟩ := z
      have h3 : hid H3 D = H4 := by rw [e3, hid_upd, hid_none n4]
      have hD3 : H3 D = some (.lst acc) := by rw [e3, upd_same]
      have er : (List.range (j + 1)).filterMap out = (List.range j).filterMap out ++ (out j).toList := by
        rw [List.range_succ, List.filterMap_append]
        cases ho : out j <;> simp [ho]
      cases bb with
      | true =>
        rw [if_pos rfl]
        obtain ⟨d, hd4⟩ := Option.isSome_iff_exists.mp eb.symm
        have ev : bvT X scope elt (sets (L2.wipe σ slots) l) (hid H3 D) fun v H5 => Gw T (hid H3 D) H5 ∧ Dp X.K H5 v d := fun s H0 C cl fp => by
          rw [h3]
          exact (helt j b d hb hd4 s H0 C cl fp).go len2 (ds2.gw g4) g4.2 fun v H5 g5 d5 => ⟨g5, d5⟩
        refine bvT_mono _ _ _ _ (fun v H5 z5 => ?_) (bvT.frame hD3 True.intro ev)
        obtain ⟨H6, ⟨g6, d6⟩, n6, e5⟩ := z5
        have h5 : hid H5 D = H6 := by rw [e5, hid_upd, hid_none n6]
        have hD5 : H5 D = some (.lst acc) := by rw [e5, upd_same]
        rw [h3] at g6
        have lenacc : acc.length ≤ j := by
          rw [dpAll_len dacc]
          exact Nat.le_trans (List.length_filterMap_le _ _) (by rw [List.length_range]; exact Nat.le_refl _)
        have all := (gg.trans gh).trans (g4.trans g6)
        refine ⟨acc, hD5, by rw [sizeLine_eq]; omega, acc ++ [v], upd_same, ?_, ?_⟩
        · rw [hid_upd, h5]
          exact all
        · rw [hid_upd, h5, er, hd4]
          exact dpAll_snoc (DpAll.gw (gh.trans (g4.trans g6)) _ _ dacc) d6
      | false =>
        rw [if_neg (by decide)]
        refine ⟨acc, hD3, ?_, ?_⟩
        · rw [h3]
          exact (gg.trans gh).trans g4
        · rw [h3, er]
          have e0 : out j = none := by
            cases ho : out j with
            | none => rfl
            | some d => rw [ho] at eb; cases eb
          rw [e0]
          simpa using DpAll.gw (gh.trans g4) _ _ dacc
  · obtain ⟨acc, hacc, gg, dacc⟩ := p
    have up : Gw T (hid H2 D) H2 := Gw.un (Gw.refl gg.2) hacc
    exact q _ _ (g1.trans (Gw.un gg hacc)) (.lst (SqL.of hacc) (DpAll.gw up _ _ dacc))
end
end LB
end
section
set_option autoImplicit false
set_option Elab.async false
set_option linter.all false
set_option maxRecDepth 100000
set_option maxHeartbeats 4000000
/-! Comprehensions: what is walked, and the rules. -/
namespace LB
open PySem PySem.Spec PyProof.Rows L2 LamX

section
variable {X : Cx} {T : List (Addr × Str)} {δ : List (Option PyData)} {elt iter t tg e : Expr} {ifs : List Expr} {scope : Scope} {x y : Str} {px py pos p p2 : Pos} {ds es : List PyData} {tt : TT} {slots : List Nat} {items : List (List (Nat × PyData))} {i j : Nat}
/-- what a comprehension walks -/
def Src (X : Cx) (T : List (Addr × Str)) (scope : Scope) (δ : List (Option PyData)) (tg iter : Expr) (slots : List Nat) (items : List (List (Nat × PyData))) : Prop :=
  ∃ wi g, PI X tg iter wi ∧ PgOk X scope tg g ∧ ItD X T δ wi g slots items ∧ ∀ x, foldedSetIterable iter X.env x = pure x
def ones (i : Nat) (ds : List PyData) : List (List (Nat × PyData)) := ds.map fun d => [(i, d)]
theorem ones_at {k : Nat} {b : List (Nat × PyData)} (h : (ones i ds)[k]? = some b) : ∃ d, ds[k]? = some d ∧ b = [(i, d)] := by
  unfold ones at h
  rw [List.getElem?_map] at h
  obtain ⟨d, hd, e⟩ := Option.map_eq_some_iff.mp h
  exact ⟨d, hd, e.symm⟩
theorem ones_len : (ones i ds).length = ds.length := List.length_map ..
def enums (i j : Nat) (ds : List PyData) : List (List (Nat × PyData)) := ds.mapIdx fun k d => [(i, .int (k : Nat)), (j, d)]
theorem enums_at {k : Nat} {b : List (Nat × PyData)} (h : (enums i j ds)[k]? = some b) : ∃ d, ds[k]? = some d ∧ b = [(i, .int (k : Nat)), (j, d)] := by
  unfold enums at h
  rw [List.getElem?_mapIdx] at h
  obtain ⟨d, hd, e⟩ := Option.map_eq_some_iff.mp h
  exact ⟨d, hd, e.symm⟩
theorem enums_len : (enums i j ds).length = ds.length := List.length_mapIdx
theorem yat_ok {xs : List V} {H1 : Hp} (hv : DpAll X.K H1 xs ds) : YOk X T (gName i) [i] (ones i ds) H1 (YAt xs) := fun k H v H' g hk ⟨e, hx⟩ => by
  subst e
  rw [ones_len] at hk
  obtain ⟨v', hv', dp⟩ := dpAll_get hv (List.getElem?_eq_getElem hk)
  rw [hx] at hv'
  cases hv'
  exact ⟨Gw.refl g.2, [(i, ds[k])], [(i, v)], by unfold ones; rw [List.getElem?_map, List.getElem?_eq_getElem hk]; rfl, rfl, .cons dp .nil, fun σ R r => r⟩
theorem ypair_ok {xs : List V} {H1 : Hp} (hv : DpAll X.K H1 xs ds) : YOk X T (gTup X.K 2 (gCons (gName i) (gCons (gName j) gNil))) [i, j] (enums i j ds) H1 (YPair (fun k => some (.int (k : Nat))) (fun k => xs[k]?)) := fun k H v H' g hk z => by
  obtain ⟨Tp, v1, v2, rfl, hT, rfl, h1, h2⟩ := z
  cases h1
  rw [enums_len] at hk
  obtain ⟨v', hv', dp⟩ := dpAll_get hv (List.getElem?_eq_getElem hk)
  have h2 : xs[k]? = some v2 := h2
  rw [h2] at hv'
  cases hv'
  exact ⟨(Gw.refl g.2).upd hT, [(i, .int (k : Nat)), (j, ds[k])], [(i, .int (k : Nat)), (j, v2)], by unfold enums; rw [List.getElem?_mapIdx, List.getElem?_eq_getElem hk]; rfl, rfl, .cons (.int _) (.cons dp .nil),
    fun σ R r => ⟨Tp, _, rfl, SqT.of upd_same, rfl, _, _, rfl, _, _, rfl, rfl, r⟩⟩
theorem src_t (h : De X T δ iter (.tuple ds)) (hg : PgOk X scope (.Name x px) (gName i)) (hs : ∀ x, foldedSetIterable iter X.env x = pure x := by intro _; rfl) : Src X T scope δ (.Name x px) iter [i] (ones i ds) :=
  ⟨_, _, pi_tup pe_ev, hg, fun σ H R hl hd t q => h.go hl hd t fun v H1 g1 d1 => by
    cases d1 with
    | @tup a xs _ hq hv => exact ⟨a, rfl, ⟨xs, hq⟩, q _ H1 (fun H => SqT X.K H a xs) (YAt xs) g1 (by rw [ones_len, ← dpAll_len hv]; exact walk_tup) (fun H2 g => SqT.gw hq g) (yat_ok hv)⟩, hs⟩
theorem src_l (h : De X T δ iter (.list ds)) (hg : PgOk X scope (.Name x px) (gName i)) (hs : ∀ x, foldedSetIterable iter X.env x = pure x := by intro _; rfl) : Src X T scope δ (.Name x px) iter [i] (ones i ds) :=
  ⟨_, _, pi_list pe_ev, hg, fun σ H R hl hd t q => h.go hl hd t fun v H1 g1 d1 => by
    cases d1 with
    | @lst a xs _ hq hv => exact ⟨a, rfl, ⟨xs, hq⟩, q _ H1 (fun H => SqL X.K H a xs) (YAt xs) g1 (by rw [ones_len, ← dpAll_len hv]; exact walk_list) (fun H2 g => SqL.gw hq g) (yat_ok hv)⟩, hs⟩
theorem upto_at {m k : Nat} (hk : k < m) : (upto m)[k]? = some (.int (k : Nat)) := by
  unfold upto
  rw [List.getElem?_map, List.getElem?_range hk]
  rfl
theorem upto_len {m : Nat} : (upto m).length = m := by unfold upto; rw [List.length_map, List.length_range]
theorem src_r {m : Nat} (fr : Free X.mg) (h : De X T δ e (.int (m : Nat))) (few : m ≤ 1000) (hg : PgOk X scope (.Name x px) (gName i)) (hgr : Gl X "range" := by rfl) (he : starEach [e] X.env = [(false, eval e X.env)] := by rfl)
    (hs : ∀ x, foldedSetIterable (.Call (.Name "range" p) [e] [] p2) X.env x = pure x := by intro _; rfl) : Src X T scope δ (.Name x px) (.Call (.Name "range" p) [e] [] p2) [i] (ones i (upto m)) :=
  ⟨_, _, pi_range1 hgr (fr _ (by decide)) (pa_cons pe_ev pa_nil he) he, hg, fun σ H R hl hd t q => h.go hl hd t fun v H1 g1 d1 => by
    cases d1
    refine ⟨(m : Int), rfl, by omega, by omega, q _ H1 (fun _ => True) (YFn fun i => .int (0 + i)) g1 (by rw [ones_len, upto_len]; exact walk_range) (fun _ _ => trivial) fun k H v H' g hk ⟨e1, e2⟩ => ?_⟩
    subst e1 e2
    rw [ones_len, upto_len] at hk
    refine ⟨Gw.refl g.2, [(i, .int (k : Nat))], [(i, .int (0 + (k : Nat)))], by unfold ones; rw [List.getElem?_map, upto_at hk]; rfl, rfl, .cons ?_ .nil, fun σ R r => r⟩
    rw [Int.zero_add]
    exact .int _, hs⟩
theorem src_et {k1 : Nat} {pt : Pos} (fr : Free X.mg) (h : De X T δ iter (.tuple ds)) (hg : PgOk X scope (.Tuple [.Name x px, .Name y py] k1 pt) (gTup X.K 2 (gCons (gName i) (gCons (gName j) gNil)))) (hge : Gl X "enumerate" := by rfl) (he : starEach [iter] X.env = [(false, eval iter X.env)] := by rfl)
    (hs : ∀ x, foldedSetIterable (.Call (.Name "enumerate" p) [iter] [] p2) X.env x = pure x := by intro _; rfl) : Src X T scope δ (.Tuple [.Name x px, .Name y py] k1 pt) (.Call (.Name "enumerate" p) [iter] [] p2) [i, j] (enums i j ds) :=
  ⟨_, _, pi_enumT hge (fr _ (by decide)) (pa_cons pe_ev pa_nil he) he, hg, fun σ H R hl hd t q => h.go hl hd t fun v H1 g1 d1 => by
    cases d1 with
    | @tup a xs _ hq hv => exact ⟨a, xs, rfl, hq, q _ H1 (fun H => SqT X.K H a xs) _ g1 (by rw [enums_len, ← dpAll_len hv]; exact walk_enumT) (fun H2 g => SqT.gw hq g) (ypair_ok hv)⟩, hs⟩
theorem src_el {k1 : Nat} {pt : Pos} (fr : Free X.mg) (h : De X T δ iter (.list ds)) (hg : PgOk X scope (.Tuple [.Name x px, .Name y py] k1 pt) (gTup X.K 2 (gCons (gName i) (gCons (gName j) gNil)))) (hge : Gl X "enumerate" := by rfl) (he : starEach [iter] X.env = [(false, eval iter X.env)] := by rfl)
    (hs : ∀ x, foldedSetIterable (.Call (.Name "enumerate" p) [iter] [] p2) X.env x = pure x := by intro _; rfl) : Src X T scope δ (.Tuple [.Name x px, .Name y py] k1 pt) (.Call (.Name "enumerate" p) [iter] [] p2) [i, j] (enums i j ds) :=
  ⟨_, _, pi_enum hge (fr _ (by decide)) (pa_cons pe_ev pa_nil he) he, hg, fun σ H R hl hd t q => h.go hl hd t fun v H1 g1 d1 => by
    cases d1 with
    | @lst a xs _ hq hv => exact ⟨a, xs, rfl, hq, q _ H1 (fun H => SqL X.K H a xs) _ g1 (by rw [enums_len, ← dpAll_len hv]; exact walk_enum) (fun H2 g => SqL.gw hq g) (ypair_ok hv)⟩, hs⟩

/-! ### the rules -/
variable {own : List (Str × Nat)} {ok : List (Option PyData) → Bool → Prop} {out : Nat → Option PyData}
theorem own_lt {sc : Scope} (bk : BlkOk X.N sc scope own) : ∀ i ∈ own.map (·.2), i < X.N.length := fun i hi => by
  obtain ⟨p, hp, e⟩ := List.mem_map.mp hi
  subst e
  exact (List.getElem?_eq_some_iff.mp (bk.ix p hp)).1
theorem De.lc (hc : X.calm = true) (hN : X.N.Nodup) (S : Src X T scope δ tg iter (own.map (·.2)) items) (F : Ift X T scope ifs tt ok) (few : items.length ≤ 1000)
    (htest : ∀ j b, items[j]? = some b → ok (bindD (wipeD δ (own.map (·.2))) b) (out j).isSome) (helt : ∀ j b e, items[j]? = some b → out j = some e → EltOk X T scope (bindD (wipeD δ (own.map (·.2))) b) elt e)
    (bk : BlkOk X.N X.env.scope scope own) : De X T δ (.ListComp elt [⟨tg, iter, ifs, 0⟩] scope pos) (.list ((List.range items.length).filterMap out)) := by
  obtain ⟨wi, g, hi, hg, I, hs⟩ := S
  exact De.of (pe_lc (te := bvT X scope elt) hc hN hi bk hg F.pts (fun s H C cl fp => ⟨fun pins s1 σ H1 Q J h => h s H C cl fp pins s1 J⟩) hs) fun σ H Q hl hd t q => lc_go I F few (own_lt bk) htest helt hl hd t q
theorem range_get {n : Nat} (h : es.length = n) : (List.range n).filterMap (fun j => es[j]?) = es := by
  have z := range_bind (fun d : PyData => some d) es
  rw [List.filterMap_some] at z
  subst h
  have e : (fun j : Nat => es[j]?) = fun j : Nat => es[j]?.bind fun d => some d := by
    funext j
    cases es[j]? <;> rfl
  rw [e]
  exact z
/-- no test: item by item -/
theorem De.lcm (hc : X.calm = true) (hN : X.N.Nodup) (S : Src X T scope δ tg iter (own.map (·.2)) items) (len : es.length = items.length) (few : items.length ≤ 1000)
    (helt : ∀ (j : Nat) (b : List (Nat × PyData)) (e : PyData), items[j]? = some b → es[j]? = some e → EltOk X T scope (bindD (wipeD δ (own.map (·.2))) b) elt e) (bk : BlkOk X.N X.env.scope scope own) : De X T δ (.ListComp elt [⟨tg, iter, [], 0⟩] scope pos) (.list es) := by
  have z := De.lc (pos := pos) (out := fun j => es[j]?) hc hN S ift_nil few (fun j b hb => by
    have : j < es.length := by rw [len]; exact (List.getElem?_eq_some_iff.mp hb).1
    rw [List.getElem?_eq_getElem this]
    rfl) helt bk
  rw [range_get len] at z
  exact z
/-- an assignment: what is stored -/
def Ds (X : Cx) (T : List (Addr × Str)) (δ : List (Option PyData)) (st : Stmt) (j : Nat) (d : PyData) : Prop := ∀ (σ : L2.St) (H : Hp) (E : Ends), σ.length = X.N.length → DS X.K H σ δ → Tabs T H → (∀ v H', Gw T H H' → Dp X.K H' v d → E.nx (σ.set j (some v)) H') → svT X st E σ H
theorem Ds.lc {q : Pos} (hc : X.calm = true) (hN : X.N.Nodup) (S : Src X T scope δ tg iter (own.map (·.2)) items) (F : Ift X T scope ifs tt ok) (few : items.length ≤ 1000)
    (htest : ∀ j b, items[j]? = some b → ok (bindD (wipeD δ (own.map (·.2))) b) (out j).isSome) (helt : ∀ j b e, items[j]? = some b → out j = some e → EltOk X T scope (bindD (wipeD δ (own.map (·.2))) b) elt e)
    (bk : BlkOk X.N X.env.scope scope own) (hsw : swapsWith (.ListComp elt [⟨tg, iter, ifs, 0⟩] scope pos) (some (.Name y py)) q.line X.env = pure true) (hy : X.N[i]? = some y := by rfl) (hyl : X.env.scope.names.lookup y = some .local := by rfl) :
    Ds X T δ (.Assign [.Name y py] (.ListComp elt [⟨tg, iter, ifs, 0⟩] scope pos) q) i (.list ((List.range items.length).filterMap out)) := by
  obtain ⟨wi, g, hi, hg, I, hs⟩ := S
  exact fun σ H E hl hd t k pins s J => (ps_setLc (te := bvT X scope elt) hc hN hy hyl hsw hi bk hg F.pts (fun s H C cl fp => ⟨fun pins s1 σ H1 Q J h => h s H C cl fp pins s1 J⟩) hs).run pins s σ H E J
    (lc_go I F few (own_lt bk) htest helt hl hd t k)
theorem Ds.lcm {q : Pos} (hc : X.calm = true) (hN : X.N.Nodup) (S : Src X T scope δ tg iter (own.map (·.2)) items) (len : es.length = items.length) (few : items.length ≤ 1000)
    (helt : ∀ (j : Nat) (b : List (Nat × PyData)) (e : PyData), items[j]? = some b → es[j]? = some e → EltOk X T scope (bindD (wipeD δ (own.map (·.2))) b) elt e) (bk : BlkOk X.N X.env.scope scope own)
    (hsw : swapsWith (.ListComp elt [⟨tg, iter, [], 0⟩] scope pos) (some (.Name y py)) q.line X.env = pure true) (hy : X.N[i]? = some y := by rfl) (hyl : X.env.scope.names.lookup y = some .local := by rfl) :
    Ds X T δ (.Assign [.Name y py] (.ListComp elt [⟨tg, iter, [], 0⟩] scope pos) q) i (.list es) := by
  have z := Ds.lc (pos := pos) (q := q) (out := fun j => es[j]?) hc hN S ift_nil few (fun j b hb => by
    have : j < es.length := by rw [len]; exact (List.getElem?_eq_some_iff.mp hb).1
    rw [List.getElem?_eq_getElem this]
    rfl) helt bk hsw hy hyl
  rw [range_get len] at z
  exact z
theorem Dn1.ofS {st : Stmt} {d : PyData} (h : Ds X T δ st i d) (hi : i < X.N.length) : Dn1 X T δ st (δ.set i (some d)) := fun σ H E hl hd t q => h σ H E hl hd t fun v H' g dv => q _ _ (by rw [List.length_set]; exact hl) g ((hd.gw g).set (by rw [hl]; exact hi) dv)
end

section
variable {X : Cx} {pins : List (Addr × Obj)} {σ : L2.St} {H : Hp} {s : Shared} {D : Addr} {o : HO} {st : Stmt}
/-- a statement with a thing set aside -/
theorem svT.frame {E : Ends} (h : H D = some o) (mv : Mv o) (t : svT X st { nx := fun σ H1 => H1 D = none → E.nx σ (upd H1 D o), rt := fun v H1 => H1 D = none → E.rt v (upd H1 D o), bk := fun σ H1 => H1 D = none → E.bk σ (upd H1 D o), ct := fun σ H1 => H1 D = none → E.ct σ (upd H1 D o) } σ (hid H D)) : svT X st E σ H := fun pins s I => by
  obtain ⟨ob, J, back⟩ := Inv.hide I h mv
  refine thn (t _ s J) fun f s' z => ?_
  unfold SP at z ⊢
  cases f with
  | next =>
    obtain ⟨σ1, H1, J1, q⟩ := z
    obtain ⟨n, I1⟩ := back J1
    exact ⟨σ1, _, I1, q n⟩
  | brk =>
    obtain ⟨σ1, H1, J1, q⟩ := z
    obtain ⟨n, I1⟩ := back J1
    exact ⟨σ1, _, I1, q n⟩
  | cont =>
    obtain ⟨σ1, H1, J1, q⟩ := z
    obtain ⟨n, I1⟩ := back J1
    exact ⟨σ1, _, I1, q n⟩
  | ret u =>
    obtain ⟨v, σ1, H1, J1, r, q⟩ := z
    obtain ⟨n, I1⟩ := back J1
    exact ⟨v, σ1, _, I1, r, q n⟩
theorem Ax.ofS {T : List (Addr × Str)} {δ : List (Option PyData)} {as : List PyData} {i j : Nat} {d : PyData} (h : Ds X T δ st j d) (hj : j < X.N.length) (ne : j ≠ i := by decide) : Ax X T i δ as st (.nx (δ.set j (some d)) as) := fun H0 σ H E a q => by
  obtain ⟨l, D, xs, hD, hH, dv, ds, g⟩ := id a
  refine svT.frame hH True.intro (h σ _ _ l ds g.2 fun v H1 g1 d1 n => ?_)
  have hh : hid (upd H1 D (.lst xs)) D = H1 := by rw [hid_upd, hid_none n]
  refine q _ _ (Ac.put (v := v) (d := d) ⟨l, D, xs, hD, upd_same, ?_, ?_, ?_⟩ (by rw [l]; exact hj) ne fun D' hD' => ?_)
  · rw [hh]
    exact DpAll.gw g1 _ _ dv
  · rw [hh]
    exact ds.gw g1
  · rw [hh]
    exact g.trans g1
  · rw [hD] at hD'
    cases hD'
    rw [hh]
    exact d1
end
end LB
end
section
set_option autoImplicit false
set_option Elab.async false
set_option linter.all false
set_option maxRecDepth 100000
set_option maxHeartbeats 4000000
/-! t.index(x) of a tuple of texts; loops that unpack. -/
namespace LB
open PySem PySem.Spec PyProof.Rows L2 LamX
/-- the known tuples have no dict -/
def KT (K : PySem.W.Frag) : Prop := ∀ a o, K.lookup a = some o → o.cls = .type "tuple" → o.dict = none
section
variable {X : Cx} {T : List (Addr × Str)} {δ : List (Option PyData)} {o e iter : Expr} {apos cpos pos : Pos} {ds : List PyData}
theorem strs_vals {K : PySem.W.Frag} {H : Hp} : ∀ {ls : List Str} {xs : List V}, DpAll K H xs (ls.map .str) → xs = ls.map V.str
  | [], _, h => by cases h; rfl
  | l :: ls, _, h => by
    cases h with
    | cons a b =>
      cases a
      rw [strs_vals b]
      rfl
theorem De.indexT {ls : List Str} {z : Str} {j : Nat} (kt : KT X.K) (ho : De X T δ o (.tuple (ls.map .str))) (he : De X T δ e (.str z)) (hj : ls[j]? = some z) (hno : ∀ m, m < j → ls[m]? ≠ some z)
    (hbase : attributeBase o "index" X.env (eval o X.env) = eval o X.env := by rfl)
    (hfew : ((backTo cpos (starEach [e] X.env)).all (fun x => !x.1) && (backToKw cpos (keywordEach [] X.env)).all (fun x => x.1.isSome) && decide ([e].length + ([] : List Keyword).length + (if ([] : List Keyword).isEmpty then 0 else 1) < 30)) = true := by rfl)
    (hline : (apos.endLine == cpos.line) = true := by rfl) (hs : starEach [e] X.env = (false, eval e X.env) :: starEach [] X.env := by rfl) (hplain : (backTo cpos (starEach [] X.env)).any (·.1) = false := by rfl) :
    De X T δ (.Call (.Attribute o "index" apos) [e] [] cpos) (.int (j : Nat)) := fun σ H hl hd t pins s I => by
  refine wpAny_Call_method_late hbase hfew hline rfl (thn (ho σ H hl hd t pins s I) fun v s1 ⟨x, H1, I1, r1, g1, d1⟩ => ?_)
  cases d1 with
  | @tup p xs _ hq hv =>
    cases r1
    have ex := strs_vals hv
    have noD : ∃ ob, s1.heap.get? p = some ob ∧ ob.cls = .type "tuple" ∧ ob.dict = none := by
      rcases hq with (hq | ⟨ob, hq⟩) | ⟨ob, its, n, hk, hc, _⟩
      · exfalso
        have nd := g1.2.2 _ _ hq
        rw [ex] at nd
        cases ls with
        | nil => simp at hj
        | cons l ls => exact nd
      · obtain ⟨e1, _, its, _, ob2, e2, hc, _⟩ := I1.hok p _ hq
        rw [e1] at e2
        cases e2
        exact ⟨ob, e1, hc, g1.2.2 _ _ hq⟩
      · exact ⟨ob, I1.kIn p ob hk, hc, kt p ob hk hc⟩
    obtain ⟨ob, hob, hc, hdn⟩ := noD
    refine ⟨"tuple", "tuple.index", PySem.F.plainAttrs_tuple, PySem.F.slot_tuple_index, PySem.F.type_tuple_index, ⟨ob, hob, hc⟩, fun a ea => ?_, ?_⟩
    · cases ea
      exact ⟨ob, hob, hdn⟩
    · have hA := (pa_cons (X := X) pe_ev pa_nil hs).run cpos pins s1 σ H1 (fun vs H2 => Gw T H1 H2 ∧ ∃ y, vs = [y] ∧ Dp X.K H2 y (.str z)) I1 (he.go hl (hd.gw g1) g1.2 fun y H2 g2 d2 => ⟨g2, y, rfl, d2⟩)
      rw [hs] at hA ⊢
      refine Calls.callWith_builtin (by show (false || (backTo cpos (starEach [] X.env)).any (·.1)) = false; rw [hplain] <;> rfl) (Calls.evalArgs_plain ?_)
      refine thn hA fun us s2 ⟨vs, H2, I2, r2, g2, y, ey, dy⟩ => ?_
      subst ey
      cases dy
      exact mt_tup_index (X := X) pins s2 σ H2 (.ref p) [.str z] (.ref p) us _ I2 rfl r2 ⟨p, ls, z, j, rfl, rfl, ex ▸ SqT.gw hq g2, hj, hno, g1.trans g2, .int _⟩

/-! ### for x, y, z in a list of triples -/
theorem Dn1.forL3 {i j k k1 : Nat} {x y z : Str} {px py pz pt : Pos} {body : List Stmt} (hp : PassesOwn (model X.prog X.w) X.A X.env X.xe) (hc : X.calm = true) (hi : De X T δ iter (.list ds))
    (hb : ∀ d ∈ ds, ∃ a b c, d = .tuple [a, b, c] ∧ ∃ δ2, Dn X T (((δ.set i (some a)).set j (some b)).set k (some c)) body δ2 ∧ Sub δ δ2) (hx : X.N[i]? = some x) (hy : X.N[j]? = some y) (hz : X.N[k]? = some z)
    (hg : PG X (.Tuple [.Name x px, .Name y py, .Name z pz] k1 pt) (gTup X.K 3 (gCons (gName i) (gCons (gName j) (gCons (gName k) gNil))))) (hs : ∀ x, foldedSetIterable iter X.env x = pure x := by intro _; rfl) :
    Dn1 X T δ (.For (.Tuple [.Name x px, .Name y py, .Name z pz] k1 pt) iter body [] pos) δ :=
  Dn1.of (ps_for hp hc (pi_list pe_ev) hg pss_ev hs) fun σ H D hl hd t q => hi.go hl hd t fun v H1 g1 d1 => by
    cases d1 with
    | @lst a xs _ hq hv =>
      refine ⟨a, rfl, ⟨xs, hq⟩, loop_data walk_list hl (hd.gw g1) g1.2 (fun H g => SqL.gw hq g) (fun n w σ H H' P hn l2 g2 d2 zz q2 => ?_) fun σ' H' l g2 d2 => q σ' H' l (g1.trans g2) d2⟩
      obtain ⟨rfl, hw⟩ := zz
      have hn2 : n < ds.length := by rw [← dpAll_len hv]; exact hn
      obtain ⟨w', hw', dp⟩ := dpAll_get hv (List.getElem?_eq_getElem hn2)
      rw [hw] at hw'
      cases hw'
      obtain ⟨da, db, dc, ed, δ2, h, sub⟩ := hb _ (List.getElem_mem hn2)
      rw [ed] at dp
      have dp2 := Dp.gw g2 _ _ dp
      cases dp2 with
      | @tup ad ys _ hq2 hv2 =>
        cases hv2 with
        | @cons v1 r1 _ _ a1 t1 =>
          cases t1 with
          | @cons v2 r2 _ _ a2 t2 =>
            cases t2 with
            | @cons v3 r3 _ _ a3 t3 =>
              cases t3
              have l1 := lt_of_ix hx l2
              have dd := ((d2.set l1 a1).set (i := j) (by rw [List.length_set]; exact lt_of_ix hy l2) a2).set (i := k) (by rw [List.length_set, List.length_set]; exact lt_of_ix hz l2) a3
              refine ⟨ad, _, rfl, hq2, rfl, _, _, rfl, _, _, rfl, _, _, rfl, rfl, ?_⟩
              exact h _ _ _ (by rw [List.length_set, List.length_set, List.length_set]; exact l2) dd g2.2 fun σ' H2 l g3 d3 => q2 σ' H2 l g3 (d3.weak sub)
end
end LB
end
section
set_option autoImplicit false
set_option Elab.async false
set_option linter.all false
set_option maxRecDepth 100000
/-! The text by places, the module's constants. -/
namespace LB
open PySem PySem.Spec PyProof.Rows L2 LamX
def top (i : Nat) : Stmt := PySem.Challenge.pw_lossbars_k08_whole_holding_is_an_order.main.body.getD i (.Pass ⟨0, 0, 0, 0⟩)
theorem dv (i : Nat) {X : Cx} {T : List (Addr × Str)} {δ : List (Option PyData)} {x : Str} {pos : Pos} {d : PyData} (hd : δ[i]? = some (some d) := by rfl) (hN : X.N[i]? = some x := by rfl) (hv : Vis X.env.scope x := by first | exact Or.inl rfl | exact Or.inr (Or.inl rfl) | exact Or.inr (Or.inr rfl))
    (h1 : (x == ("__debug__" : Str)) = false := by decide) (h2 : (x == ("__classdict__" : Str)) = false := by decide) : De X T δ (.Name x pos) d := De.var hd hN hv h1 h2
section
variable {X : Cx} {T : List (Addr × Str)} {δ : List (Option PyData)} {e : Expr} {p pos : Pos} {d d' : PyData} {ds : List PyData}
theorem De.cast (h : De X T δ e d) (q : d = d') : De X T δ e d' := q ▸ h
theorem Dt.cast {b b' : Bool} (h : Dt X T δ e b) (q : b = b') : Dt X T δ e b' := q ▸ h
theorem De.allT (fr : Free X.mg) (hc : X.calm = true) (h : De X T δ e (.list ds)) (ht : ∀ d ∈ ds, d = .bool true) (hg : Gl X "all" := by rfl) (he : starEach [e] X.env = (false, eval e X.env) :: starEach [] X.env := by rfl) : De X T δ (.Call (.Name "all" p) [e] [] pos) (.bool true) := by
  have q : ds = (ds.map fun _ => true).map .bool := by
    rw [List.map_map]
    conv => lhs; rw [← List.map_id ds]
    exact List.map_congr_left fun d hd => ht d hd
  have z := De.all (p := p) (pos := pos) fr hc (h.cast (congrArg PyData.list q)) hg he
  refine z.cast ?_
  rw [List.all_map]
  exact congrArg PyData.bool (List.all_eq_true.mpr fun _ _ => rfl)
end
/-- a constant of the module -/
def GCm (mg : Str → Option Value) (K : PySem.W.Frag) (x : Str) (d : PyData) : Prop := ∃ v u, mg x = some u ∧ RelV v u ∧ ∀ H, Dp K H v d
def letters26 : Str := "abcdefghijklmnopqrstuvwxyz"
def sidesD : PyData := .tuple [.str "left", .str "right"]
structure Gb (w : World) (mg : Str → Option Value) (K : PySem.W.Frag) : Prop where
  fr : Free mg
  kt : KT K
  letters : GCm mg K "LETTERS" (.str letters26)
  mLetters : GCm mg K "MOST_LETTERS" (.int 8)
  mMarks : GCm mg K "MOST_MARKS" (.int 3)
  mTuples : GCm mg K "MOST_TUPLES" (.int 11)
  mDeep : GCm mg K "MOST_DEEP" (.int 5)
  mRows : GCm mg K "MOST_ROWS" (.int 4)
  mComp : GCm mg K "MOST_COMPONENTS" (.int 27)
  mNumber : GCm mg K "MOST_NUMBER" (.int 99)
  mElem : GCm mg K "MOST_ELEMENTS" (.int 8)
  sides : GCm mg K "SIDES" sidesD
  parts : ∃ (D : Addr) (es : Array DictEntry) (n : Nat), mg "PARTS" = some (.ref D) ∧ KDict K w D es n ∧ (∃ t, PySem.W.nsIn K D "both" = some (some (.int 2 t))) ∧ (∃ t, PySem.W.nsIn K D "either" = some (some (.int 2 t))) ∧
    (∃ t, PySem.W.nsIn K D "lane" = some (some (.int 1 t))) ∧ (∃ t, PySem.W.nsIn K D "heap" = some (some (.int 1 t)))
/-- a word that a sort may hold -/
def wordB (x : Str) : Bool := decide (1 ≤ x.length) && decide (x.length ≤ 8) && x.cps.toList.all fun c => decide (c ∈ letters26.cps.toList)
section
variable {P : Program} {w : World} {K : PySem.W.Frag} {mg : Str → Option Value} {base : Heap} {T : List (Addr × Str)} {f : Addr} {fd : FuncData}
abbrev sWord : Stmt := top 13
theorem sc_word : FnScope ["value", "letter"] ["value"] (defScope sWord) := ⟨rfl, rfl, rfl, by decide +kernel, rfl, by decide +kernel, by decide +kernel⟩
def RWord (ds : List PyData) (d : PyData) : Prop := ∃ x, ds = [.str x] ∧ wordB x = true ∧ d = .bool true
theorem w_word (F : Fun K "is_word" "is_word" sWord f fd) (hm : mg "is_word" = some (.ref f)) (hb : Binds K fd ["value"] []) (G : Gb w mg K) : Fd P w K mg base T 1 "is_word" RWord := by
  refine Fd.mk (m := 1) F hm hb sc_word (fun ds d ⟨x, e, _⟩ => by rw [e]; rfl) fun cdv A outer s H E ds d hr ⟨x, e1, hx, e2⟩ => ?_
  subst e1 e2
  unfold wordB at hx
  rw [Bool.and_eq_true, Bool.and_eq_true, decide_eq_true_eq, decide_eq_true_eq] at hx
  obtain ⟨⟨h1, h8⟩, hall⟩ := hx
  have hfr := G.fr
  refine Dr.ifF (Dt.w (Dw.orF (Dt.not (b := true) (Dt.val (De.isi hfr (dv 0 (d := .str x)) (by decide) rfl kit_same))) (Dw.or1 (Dt.not (b := true) (Dt.chain De.int (De.lenS (z := x) hfr (dv 0) (Nat.le_trans h8 (by decide))) (De.glob G.mLetters) (by exact_mod_cast h1) (by exact_mod_cast h8)))))) ?_
  refine Dr.ret ?_
  refine De.allT hfr rfl (De.mapS (i := 1) (f := fun _ => .bool true) rfl sc_word.nd (dv 0) (Nat.le_trans h8 (by decide)) (fun d hd => rfl) (fun d hd s H C cl fp => ?_) (blkOk_by (N := ["value", "letter"]) (sc := defScope sWord) (by decide +kernel)) rfl (fun _ _ _ _ _ => pg_name sc_word.nd rfl (Or.inl rfl))) fun d hd => by
    obtain ⟨_, _, rfl⟩ := List.mem_map.mp hd
    rfl
  obtain ⟨c, hc, rfl⟩ := List.mem_map.mp hd
  exact De.cast (De.inSign (dv 1) (De.glob G.letters)) (congrArg PyData.bool (List.all_eq_true.mp hall c hc))
end
end LB
end
section
set_option autoImplicit false
set_option Elab.async false
set_option linter.all false
set_option maxRecDepth 100000
set_option maxHeartbeats 4000000
/-! Walks: the sorts. -/
namespace LB
open PySem PySem.Spec PyProof.Rows L2 LamX

/-! ### sorts as data -/
def Wf : S → Prop
  | .mark ls => 1 ≤ ls.length ∧ ls.length ≤ 3 ∧ ls.Nodup ∧ ∀ x ∈ ls, wordB x = true
  | .count => True
  | .both a b => Wf a ∧ Wf b
  | .either a b => Wf a ∧ Wf b
  | .lane a => Wf a
  | .heap a => Wf a
def partsS : S → List S
  | .mark _ => []
  | .count => []
  | .both a b => [a, b]
  | .either a b => [a, b]
  | .lane a => [a]
  | .heap a => [a]
def dep : S → Nat
  | .mark _ => 1
  | .count => 1
  | .both a b => 1 + max (dep a) (dep b)
  | .either a b => 1 + max (dep a) (dep b)
  | .lane a => 1 + dep a
  | .heap a => 1 + dep a
def kindS : S → Str
  | .mark _ => kMark
  | .count => kCount
  | .both _ _ => kBoth
  | .either _ _ => kEither
  | .lane _ => kLane
  | .heap _ => kHeap
theorem parts_wf {s p : S} (h : Wf s) (hp : p ∈ partsS s) : Wf p := by
  cases s <;> simp only [partsS, List.mem_cons, List.not_mem_nil, or_false] at hp <;> simp only [Wf] at h
  · rcases hp with rfl | rfl
    · exact h.1
    · exact h.2
  · rcases hp with rfl | rfl
    · exact h.1
    · exact h.2
  · rw [hp]; exact h
  · rw [hp]; exact h
theorem parts_dep {s p : S} (hp : p ∈ partsS s) : dep p < dep s := by
  cases s <;> simp only [partsS, List.mem_cons, List.not_mem_nil, or_false] at hp <;> simp only [dep]
  · rcases hp with rfl | rfl <;> omega
  · rcases hp with rfl | rfl <;> omega
  · rw [hp]; omega
  · rw [hp]; omega
/-- the rest of a sort's tuple -/
theorem enc_parts (s : S) (h : ∀ ls, s ≠ .mark ls) : s.enc = .tuple (.str (kindS s) :: (partsS s).map S.enc) := by
  cases s with
  | mark ls => exact absurd rfl (h ls)
  | _ => rfl
theorem enc_head (s : S) : ∃ r, s.enc = .tuple (.str (kindS s) :: r) := by
  cases s <;> exact ⟨_, rfl⟩

section
variable {X : Cx} {T : List (Addr × Str)} {δ : List (Option PyData)} {a e : Expr} {p p2 q pos : Pos}
/-- e[0] of a sort -/
theorem De.kind {s : S} {j : Nat} {p3 : Pos} (h : De X T δ e s.enc) : De X T δ (.Subscript e (.Constant (.int 0) j p3) pos) (.str (kindS s)) := by
  obtain ⟨r, hr⟩ := enc_head s
  rw [hr] at h
  exact De.ixT (k := 0) h De.int rfl
theorem De.inParts {D : Addr} {es : Array DictEntry} {n : Nat} {z : Str} {u : Value} (hD : KDict X.K X.w D es n) (hm : X.mg "PARTS" = some (.ref D)) (ha : De X T δ a (.str z)) (hz : PySem.W.nsIn X.K D z = some (some u)) (hg : Gl X "PARTS" := by rfl) (hb : behindInMarks .In (.Name "PARTS" p) = false := by with_unfolding_all rfl) :
    De X T δ (.Compare a [.In] [.Name "PARTS" p] pos) (.bool true) :=
  De.of (pe_cmpR (op_in_kd hD) pe_ev (pe_glob (v := .ref D) hg hm rfl) hb) fun σ H Q hl hd t q => ha.go hl hd t fun x H1 g1 d1 => by
    cases d1
    exact ⟨z, some u, rfl, rfl, hz, q _ _ g1 (.bl true)⟩
theorem De.itemParts {D : Addr} {es : Array DictEntry} {n : Nat} {z : Str} {i : Int} {t0 : Tok} (hD : KDict X.K X.w D es n) (hm : X.mg "PARTS" = some (.ref D)) (ha : De X T δ a (.str z)) (hz : PySem.W.nsIn X.K D z = some (some (.int i t0))) (hg : Gl X "PARTS" := by rfl) (hs : PlainIx a := by intro _ _; rfl) :
    De X T δ (.Subscript (.Name "PARTS" p) a pos) (.int i) :=
  De.of (pe_ix (ix_kdict) (pe_glob (v := .ref D) hg hm rfl) pe_ev hs) fun σ H Q hl hd t q => ha.go hl hd t fun x H1 g1 d1 => by
    cases d1
    exact ⟨D, z, .int i, rfl, rfl, ⟨es, n, .int i t0, hD.at_, hD.lit, hz, ⟨t0, rfl⟩⟩, q _ _ g1 (.int i)⟩
end

/-! ### shaped data -/
theorem word_ok {x : Str} (h : wordB x = true) : PyData.strOk x = true := by
  unfold wordB at h
  rw [Bool.and_eq_true, Bool.and_eq_true] at h
  have h3 := List.all_eq_true.mp h.2
  show x.cps.all (· < 0x110000) = true
  rw [← Array.all_toList]
  refine List.all_eq_true.mpr fun c hc => decide_eq_true ?_
  have m := of_decide_eq_true (h3 c hc)
  have all : ∀ c ∈ letters26.cps.toList, c < 0x110000 := by decide +kernel
  exact all c m
theorem canAll {ds : List PyData} : PyData.canLayAll0 ds = true ↔ ∀ d ∈ ds, d.canLay0 = true := by
  induction ds with
  | nil => simp [PyData.canLayAll0]
  | cons d ds ih => rw [PyData.canLayAll0, Bool.and_eq_true, ih]; simp
theorem depthAll_le {ds : List PyData} {n : Nat} (h : ∀ d ∈ ds, d.depth ≤ n) : PyData.depthAll ds ≤ n := by
  induction ds with
  | nil => exact Nat.zero_le _
  | cons d ds ih =>
    rw [PyData.depthAll]
    exact Nat.max_le.mpr ⟨h d List.mem_cons_self, ih fun d hd => h d (List.mem_cons_of_mem _ hd)⟩
theorem enc_can : ∀ s : S, Wf s → s.enc.canLay0 = true
  | .mark ls, h => by
    show PyData.canLayAll0 [.str kMark, .tuple (ls.map .str)] = true
    refine canAll.mpr fun d hd => ?_
    rcases List.mem_cons.mp hd with rfl | hd
    · decide +kernel
    · rw [List.mem_singleton.mp hd]
      refine canAll.mpr fun d hd => ?_
      obtain ⟨x, hx, rfl⟩ := List.mem_map.mp hd
      exact word_ok (h.2.2.2 x hx)
  | .count, _ => by decide +kernel
  | .both a b, h => by
    show PyData.canLayAll0 [.str kBoth, a.enc, b.enc] = true
    rw [PyData.canLayAll0, PyData.canLayAll0, PyData.canLayAll0, enc_can a h.1, enc_can b h.2]
    decide +kernel
  | .either a b, h => by
    show PyData.canLayAll0 [.str kEither, a.enc, b.enc] = true
    rw [PyData.canLayAll0, PyData.canLayAll0, PyData.canLayAll0, enc_can a h.1, enc_can b h.2]
    decide +kernel
  | .lane a, h => by
    show PyData.canLayAll0 [.str kLane, a.enc] = true
    rw [PyData.canLayAll0, PyData.canLayAll0, enc_can a h]
    decide +kernel
  | .heap a, h => by
    show PyData.canLayAll0 [.str kHeap, a.enc] = true
    rw [PyData.canLayAll0, PyData.canLayAll0, enc_can a h]
    decide +kernel
theorem enc_depth : ∀ s : S, s.enc.depth ≤ dep s + 1
  | .mark ls => by
    show PyData.depthAll _ + 1 ≤ 1 + 1
    refine Nat.succ_le_succ (depthAll_le fun d hd => ?_)
    rcases List.mem_cons.mp hd with rfl | hd
    · exact Nat.zero_le _
    · rw [List.mem_singleton.mp hd]
      refine Nat.succ_le_succ (depthAll_le fun d hd => ?_)
      obtain ⟨x, _, rfl⟩ := List.mem_map.mp hd
      exact Nat.zero_le _
  | .count => by decide
  | .both a b => by
    have h1 := enc_depth a
    have h2 := enc_depth b
    show PyData.depthAll [.str kBoth, a.enc, b.enc] + 1 ≤ dep (.both a b) + 1
    refine Nat.succ_le_succ (depthAll_le fun d hd => ?_)
    simp only [List.mem_cons, List.not_mem_nil, or_false] at hd
    simp only [dep]
    rcases hd with rfl | rfl | rfl
    · exact Nat.zero_le _
    · omega
    · omega
  | .either a b => by
    have h1 := enc_depth a
    have h2 := enc_depth b
    show PyData.depthAll [.str kEither, a.enc, b.enc] + 1 ≤ dep (.either a b) + 1
    refine Nat.succ_le_succ (depthAll_le fun d hd => ?_)
    simp only [List.mem_cons, List.not_mem_nil, or_false] at hd
    simp only [dep]
    rcases hd with rfl | rfl | rfl
    · exact Nat.zero_le _
    · omega
    · omega
  | .lane a => by
    have h1 := enc_depth a
    show PyData.depthAll [.str kLane, a.enc] + 1 ≤ dep (.lane a) + 1
    refine Nat.succ_le_succ (depthAll_le fun d hd => ?_)
    simp only [List.mem_cons, List.not_mem_nil, or_false] at hd
    simp only [dep]
    rcases hd with rfl | rfl
    · exact Nat.zero_le _
    · omega
  | .heap a => by
    have h1 := enc_depth a
    show PyData.depthAll [.str kHeap, a.enc] + 1 ≤ dep (.heap a) + 1
    refine Nat.succ_le_succ (depthAll_le fun d hd => ?_)
    simp only [List.mem_cons, List.not_mem_nil, or_false] at hd
    simp only [dep]
    rcases hd with rfl | rfl
    · exact Nat.zero_le _
    · omega
theorem enc_shaped {s : S} (h : Wf s) (hd : dep s ≤ 60) : SeqAt.shaped s.enc = true := by
  have z := enc_depth s
  exact Bool.and_eq_true_iff.mpr ⟨enc_can s h, decide_eq_true (by omega)⟩

/-! ### the walks -/
section
variable {P : Program} {w : World} {K : PySem.W.Frag} {mg : Str → Option Value} {base : Heap} {T : List (Addr × Str)} {f : Addr} {fd : FuncData}
/-- no arguments are fit: any def keeps that promise -/
theorem Fd.void {k : Nat} {x : Str} {st : Stmt} {N ps : List Str} {R : List PyData → PyData → Prop} (F : Fun K x x st f fd) (hm : mg x = some (.ref f)) (hb : Binds K fd ps []) (S : FnScope N ps (defScope st)) (no : ∀ ds d, R ds d → False) : Fd P w K mg base T (k + 1) x R :=
  Fd.mk (m := 0) F hm hb S (fun ds d h => (no ds d h).elim) fun cdv A outer s H E ds d hr h => (no ds d h).elim

abbrev sLetters : Stmt := top 14
theorem sc_letters : FnScope ["value", "letter"] ["value"] (defScope sLetters) := ⟨rfl, rfl, rfl, by decide +kernel, rfl, by decide +kernel, by decide +kernel⟩
def RLetters (ds : List PyData) (d : PyData) : Prop := ∃ ls : List Str, ds = [.tuple (ls.map .str)] ∧ Wf (.mark ls) ∧ d = .bool true
theorem w_letters (F : Fun K "are_letters" "are_letters" sLetters f fd) (hm : mg "are_letters" = some (.ref f)) (hb : Binds K fd ["value"] []) (G : Gb w mg K) (FW : Fd P w K mg base T 1 "is_word" RWord) : Fd P w K mg base T 2 "are_letters" RLetters := by
  refine Fd.mk (m := 1) F hm hb sc_letters (fun ds d ⟨x, e, _⟩ => by rw [e]; rfl) fun cdv A outer s H E ds d hr ⟨ls, e1, ⟨h1, h3, hnd, hw⟩, e2⟩ => ?_
  subst e1 e2
  have hfr := G.fr
  have len : (ls.map PyData.str).length = ls.length := List.length_map ..
  refine Dr.ifF (Dt.w (Dw.orF (Dt.not (b := true) (Dt.val (De.isi hfr (dv 0 (d := .tuple (ls.map .str))) (by decide) rfl kit_same))) (Dw.or1 (Dt.not (b := true) (Dt.chain De.int (De.len hfr (dv 0 (d := .tuple (ls.map .str)))) (De.glob G.mMarks) (by rw [len]; exact_mod_cast h1) (by rw [len]; exact_mod_cast h3)))))) ?_
  refine Dr.ret ?_
  refine De.andT (De.allT (ds := ls.map fun _ => .bool true) hfr rfl (De.lcm rfl sc_letters.nd (src_t (i := 1) (dv 0 (d := .tuple (ls.map .str))) (fun _ _ _ _ _ => pg_name sc_letters.nd rfl (Or.inl rfl))) ?_ ?_ (fun j b e hb he s H C cl fp => ?_) (blkOk_by (N := ["value", "letter"]) (sc := defScope sLetters) (own := [("letter", 1)]) (by decide +kernel))) ?_) (De.one ?_)
  · rw [ones_len, List.length_map, List.length_map]
  · rw [ones_len, len]
    omega
  · obtain ⟨d, hd, rfl⟩ := ones_at hb
    rw [List.getElem?_map] at hd he
    obtain ⟨x, hx, rfl⟩ := Option.map_eq_some_iff.mp hd
    rw [hx] at he
    cases he
    exact De.call FW hr (Da.cons (dv 1 (d := .str x)) Da.nil) ⟨x, rfl, hw x (List.mem_of_getElem? hx), rfl⟩
  · intro d hd
    obtain ⟨_, _, rfl⟩ := List.mem_map.mp hd
    rfl
  · refine De.cast (De.eqI (De.lenSetS hfr rfl (dv 0 (d := .tuple (ls.map .str))) hnd (by omega)) (De.len hfr (dv 0 (d := .tuple (ls.map .str))))) ?_
    rw [len, decide_eq_true rfl]
end
end LB
end
section
set_option autoImplicit false
set_option Elab.async false
set_option linter.all false
set_option maxRecDepth 100000
set_option maxHeartbeats 4000000
/-! Walks: the sorts, on. -/
namespace LB
open PySem PySem.Spec PyProof.Rows L2 LamX
section
variable {X : Cx} {T : List (Addr × Str)} {δ : List (Option PyData)} {a e : Expr} {p p2 q pos : Pos}
theorem De.enc {s : S} {ds : List PyData} (h : De X T δ e s.enc) (q : s.enc = .tuple ds := by rfl) : De X T δ e (.tuple ds) := h.cast q
/-- e[0] == 'kind' -/
theorem Dt.kindIs {s : S} {k y : Str} {r : Bool} {j j2 : Nat} {p3 p4 : Pos} (h : De X T δ e s.enc) (hk : kindS s = k := by rfl) (hr : decide (k = y) = r := by decide +kernel) : Dt X T δ (.Compare (.Subscript e (.Constant (.int 0) j p3) pos) [.Eq] [.Constant (.str y) j2 p4] q) r :=
  hr ▸ hk ▸ Dt.eqS (De.kind h) De.str
end
section
variable {P : Program} {w : World} {K : PySem.W.Frag} {mg : Str → Option Value} {base : Heap} {T : List (Addr × Str)} {f : Addr} {fd : FuncData}
abbrev sForm : Stmt := top 15
theorem sc_form : FnScope ["value"] ["value"] (defScope sForm) := ⟨rfl, rfl, rfl, by decide +kernel, rfl, by decide +kernel, by decide +kernel⟩
def RForm (ds : List PyData) (d : PyData) : Prop := ∃ s : S, ds = [s.enc] ∧ Wf s ∧ dep s ≤ 5 ∧ d = .bool true
theorem w_form (F : Fun K "has_form" "has_form" sForm f fd) (hm : mg "has_form" = some (.ref f)) (hb : Binds K fd ["value"] []) (G : Gb w mg K) (FL : Fd P w K mg base T 2 "are_letters" RLetters) : Fd P w K mg base T 3 "has_form" RForm := by
  refine Fd.mk (m := 0) F hm hb sc_form (fun ds d ⟨x, e, _⟩ => by rw [e]; rfl) fun cdv A outer s H E ds d hr ⟨s, e1, hw, h5, e2⟩ => ?_
  subst e1 e2
  have hfr := G.fr
  obtain ⟨r, he⟩ := enc_head s
  refine Dr.ifF (Dt.w (Dw.orF (Dt.not (b := true) (Dt.val (De.isi hfr (De.enc (s := s) (dv 0) he) (by decide) rfl kit_same))) (Dw.orF (Dt.cast (Dt.eq hr.units (dv 0 (d := s.enc)) (De.tup Da.nil) (enc_shaped hw (by omega)) (by decide +kernel)) ?_)
    (Dw.or1 (Dt.not (b := true) (Dt.val (De.isi hfr (De.kind (s := s) (dv 0)) (by decide) rfl kit_same))))))) ?_
  · rw [he]
    rfl
  obtain ⟨D, es, n, hmP, hD, ⟨t1, z1⟩, ⟨t2, z2⟩, ⟨t3, z3⟩, ⟨t4, z4⟩⟩ := G.parts
  cases s with
  | mark ls =>
    refine Dr.ifT (Dt.kindIs (k := kMark) (s := .mark ls) (dv 0)) (Dr.ret (De.andT (De.cast (De.eqI (De.len hfr (De.enc (s := .mark ls) (dv 0))) De.int) rfl) (De.one (De.call FL hr (Da.cons (De.ixT (k := 1) (De.enc (s := .mark ls) (dv 0)) De.int rfl) Da.nil) ⟨ls, rfl, hw, rfl⟩))))
  | count =>
    refine Dr.ifF (Dt.kindIs (k := kCount) (s := .count) (dv 0)) (Dr.ifT (Dt.kindIs (k := kCount) (s := .count) (dv 0)) (Dr.ret (De.cast (De.eqI (De.len hfr (De.enc (s := .count) (dv 0))) De.int) rfl)))
  | both a b =>
    refine Dr.ifF (Dt.kindIs (k := kBoth) (s := .both a b) (dv 0)) (Dr.ifF (Dt.kindIs (k := kBoth) (s := .both a b) (dv 0)) (Dr.ret (De.andT (De.inParts hD hmP (De.kind (s := .both a b) (dv 0)) z1) (De.one (De.cast (De.eqI (De.len hfr (De.enc (s := .both a b) (dv 0))) (De.add De.int (De.itemParts hD hmP (De.kind (s := .both a b) (dv 0)) z1))) rfl)))))
  | either a b =>
    refine Dr.ifF (Dt.kindIs (k := kEither) (s := .either a b) (dv 0)) (Dr.ifF (Dt.kindIs (k := kEither) (s := .either a b) (dv 0)) (Dr.ret (De.andT (De.inParts hD hmP (De.kind (s := .either a b) (dv 0)) z2) (De.one (De.cast (De.eqI (De.len hfr (De.enc (s := .either a b) (dv 0))) (De.add De.int (De.itemParts hD hmP (De.kind (s := .either a b) (dv 0)) z2))) rfl)))))
  | lane a =>
    refine Dr.ifF (Dt.kindIs (k := kLane) (s := .lane a) (dv 0)) (Dr.ifF (Dt.kindIs (k := kLane) (s := .lane a) (dv 0)) (Dr.ret (De.andT (De.inParts hD hmP (De.kind (s := .lane a) (dv 0)) z3) (De.one (De.cast (De.eqI (De.len hfr (De.enc (s := .lane a) (dv 0))) (De.add De.int (De.itemParts hD hmP (De.kind (s := .lane a) (dv 0)) z3))) rfl)))))
  | heap a =>
    refine Dr.ifF (Dt.kindIs (k := kHeap) (s := .heap a) (dv 0)) (Dr.ifF (Dt.kindIs (k := kHeap) (s := .heap a) (dv 0)) (Dr.ret (De.andT (De.inParts hD hmP (De.kind (s := .heap a) (dv 0)) z4) (De.one (De.cast (De.eqI (De.len hfr (De.enc (s := .heap a) (dv 0))) (De.add De.int (De.itemParts hD hmP (De.kind (s := .heap a) (dv 0)) z4))) rfl)))))

abbrev sParts : Stmt := top 16
theorem sc_parts : FnScope ["sort"] ["sort"] (defScope sParts) := ⟨rfl, rfl, rfl, by decide +kernel, rfl, by decide +kernel, by decide +kernel⟩
def RParts (ds : List PyData) (d : PyData) : Prop := ∃ s : S, ds = [s.enc] ∧ d = .tuple ((partsS s).map S.enc)
theorem w_parts (F : Fun K "parts_of" "parts_of" sParts f fd) (hm : mg "parts_of" = some (.ref f)) (hb : Binds K fd ["sort"] []) : Fd P w K mg base T 1 "parts_of" RParts := by
  refine Fd.mk (m := 0) F hm hb sc_parts (fun ds d ⟨x, e, _⟩ => by rw [e]; rfl) fun cdv A outer s H E ds d hr ⟨s, e1, e2⟩ => ?_
  subst e1 e2
  refine Dr.ret ?_
  cases s with
  | mark ls => exact De.ifT (Dt.cast (Dt.inT (zs := ["mark", "count"]) (De.kind (s := .mark ls) (dv 0)) (De.tup (Da.cons De.str (Da.cons De.str Da.nil)))) (by simp only [kindS]; decide +kernel)) (De.cast (De.tup Da.nil) rfl)
  | count => exact De.ifT (Dt.cast (Dt.inT (zs := ["mark", "count"]) (De.kind (s := .count) (dv 0)) (De.tup (Da.cons De.str (Da.cons De.str Da.nil)))) (by decide +kernel)) (De.cast (De.tup Da.nil) rfl)
  | both a b => exact De.ifF (Dt.cast (Dt.inT (zs := ["mark", "count"]) (De.kind (s := .both a b) (dv 0)) (De.tup (Da.cons De.str (Da.cons De.str Da.nil)))) (by simp only [kindS]; decide +kernel)) (De.cut1 (De.enc (s := .both a b) (dv 0)) (by simp only [partsS, List.map_cons, List.map_nil, List.length_cons, List.length_nil]; decide))
  | either a b => exact De.ifF (Dt.cast (Dt.inT (zs := ["mark", "count"]) (De.kind (s := .either a b) (dv 0)) (De.tup (Da.cons De.str (Da.cons De.str Da.nil)))) (by simp only [kindS]; decide +kernel)) (De.cut1 (De.enc (s := .either a b) (dv 0)) (by simp only [partsS, List.map_cons, List.map_nil, List.length_cons, List.length_nil]; decide))
  | lane a => exact De.ifF (Dt.cast (Dt.inT (zs := ["mark", "count"]) (De.kind (s := .lane a) (dv 0)) (De.tup (Da.cons De.str (Da.cons De.str Da.nil)))) (by simp only [kindS]; decide +kernel)) (De.cut1 (De.enc (s := .lane a) (dv 0)) (by simp only [partsS, List.map_cons, List.map_nil, List.length_cons, List.length_nil]; decide))
  | heap a => exact De.ifF (Dt.cast (Dt.inT (zs := ["mark", "count"]) (De.kind (s := .heap a) (dv 0)) (De.tup (Da.cons De.str (Da.cons De.str Da.nil)))) (by simp only [kindS]; decide +kernel)) (De.cut1 (De.enc (s := .heap a) (dv 0)) (by simp only [partsS, List.map_cons, List.map_nil, List.length_cons, List.length_nil]; decide))
end
end LB
end
section
set_option autoImplicit false
set_option Elab.async false
set_option linter.all false
set_option maxRecDepth 100000
set_option maxHeartbeats 4000000
/-! Walks: the sorts, on. -/
namespace LB
open PySem PySem.Spec PyProof.Rows L2 LamX
theorem Sub.rfl' {δ : List (Option PyData)} : Sub δ δ := fun _ _ h => h
theorem Sub.tl {a : Option PyData} {r1 r2 : List (Option PyData)} (h : Sub r1 r2) : Sub (a :: r1) (a :: r2) := fun i d e => by
  cases i with
  | zero => exact e
  | succ i => exact h i d e
theorem Sub.no {b : Option PyData} {r1 r2 : List (Option PyData)} (h : Sub r1 r2) : Sub (none :: r1) (b :: r2) := fun i d e => by
  cases i with
  | zero => cases e
  | succ i => exact h i d e
theorem Sub.ni {r : List (Option PyData)} : Sub [] r := fun i d e => by cases e

/-! ### sorts counted -/
def subsS : S → List S
  | .mark ls => [.mark ls]
  | .count => [.count]
  | .both a b => .both a b :: (subsS a ++ subsS b)
  | .either a b => .either a b :: (subsS a ++ subsS b)
  | .lane a => .lane a :: subsS a
  | .heap a => .heap a :: subsS a
def cmpS : S → Nat
  | .mark ls => ls.length
  | .count => 1
  | .both a b => cmpS a * cmpS b
  | .either a b => cmpS a + cmpS b
  | .lane _ => 1
  | .heap _ => 1
def gRow : PyData → Option PyData
  | .tuple (.str k :: r) => if inS k ["lane", "heap"] = true then some (.tuple (.str k :: r)) else none
  | _ => none
theorem subs_eq (s : S) : subsS s = s :: (partsS s).flatMap subsS := by
  cases s <;> simp [subsS, partsS]
theorem subs_self (s : S) : s ∈ subsS s := by
  rw [subs_eq]
  exact List.mem_cons_self
theorem subs_part {s p q : S} (hp : p ∈ partsS s) (hq : q ∈ subsS p) : q ∈ subsS s := by
  rw [subs_eq]
  exact List.mem_cons_of_mem _ (List.mem_flatMap.mpr ⟨p, hp, hq⟩)
theorem subs_trans {s p q : S} (hp : p ∈ subsS s) (hq : q ∈ subsS p) : q ∈ subsS s := by
  induction s with
  | mark ls => rw [List.mem_singleton.mp hp] at hq; exact hq
  | count => rw [List.mem_singleton.mp hp] at hq; exact hq
  | both a b iha ihb =>
    rcases List.mem_cons.mp hp with rfl | hp
    · exact hq
    · refine List.mem_cons_of_mem _ (List.mem_append.mpr ?_)
      rcases List.mem_append.mp hp with h | h
      · exact .inl (iha h)
      · exact .inr (ihb h)
  | either a b iha ihb =>
    rcases List.mem_cons.mp hp with rfl | hp
    · exact hq
    · refine List.mem_cons_of_mem _ (List.mem_append.mpr ?_)
      rcases List.mem_append.mp hp with h | h
      · exact .inl (iha h)
      · exact .inr (ihb h)
  | lane a iha =>
    rcases List.mem_cons.mp hp with rfl | hp
    · exact hq
    · exact List.mem_cons_of_mem _ (iha hp)
  | heap a iha =>
    rcases List.mem_cons.mp hp with rfl | hp
    · exact hq
    · exact List.mem_cons_of_mem _ (iha hp)
theorem subs_wf {s p : S} (h : Wf s) (hp : p ∈ subsS s) : Wf p := by
  induction s with
  | mark ls => rw [List.mem_singleton.mp hp]; exact h
  | count => rw [List.mem_singleton.mp hp]; exact h
  | both a b iha ihb =>
    rcases List.mem_cons.mp hp with rfl | hp
    · exact h
    · rcases List.mem_append.mp hp with z | z
      · exact iha h.1 z
      · exact ihb h.2 z
  | either a b iha ihb =>
    rcases List.mem_cons.mp hp with rfl | hp
    · exact h
    · rcases List.mem_append.mp hp with z | z
      · exact iha h.1 z
      · exact ihb h.2 z
  | lane a iha =>
    rcases List.mem_cons.mp hp with rfl | hp
    · exact h
    · exact iha h hp
  | heap a iha =>
    rcases List.mem_cons.mp hp with rfl | hp
    · exact h
    · exact iha h hp
theorem subs_dep {s p : S} (hp : p ∈ subsS s) : dep p ≤ dep s := by
  induction s with
  | mark ls => rw [List.mem_singleton.mp hp]; exact Nat.le_refl _
  | count => rw [List.mem_singleton.mp hp]; exact Nat.le_refl _
  | both a b iha ihb =>
    rcases List.mem_cons.mp hp with rfl | hp
    · exact Nat.le_refl _
    · simp only [dep]
      rcases List.mem_append.mp hp with z | z
      · have := iha z; omega
      · have := ihb z; omega
  | either a b iha ihb =>
    rcases List.mem_cons.mp hp with rfl | hp
    · exact Nat.le_refl _
    · simp only [dep]
      rcases List.mem_append.mp hp with z | z
      · have := iha z; omega
      · have := ihb z; omega
  | lane a iha =>
    rcases List.mem_cons.mp hp with rfl | hp
    · exact Nat.le_refl _
    · simp only [dep]
      have := iha hp
      omega
  | heap a iha =>
    rcases List.mem_cons.mp hp with rfl | hp
    · exact Nat.le_refl _
    · simp only [dep]
      have := iha hp
      omega
/-- a sort that the program takes -/
structure Good (s : S) : Prop where
  wf : Wf s
  dp : dep s ≤ 5
  sm : (subsS s).length ≤ 11
  rw : (((subsS s).map S.enc).filterMap gRow).length ≤ 4
  cm : ∀ p ∈ subsS s, cmpS p ≤ 27

section
variable {P : Program} {w : World} {K : PySem.W.Frag} {mg : Str → Option Value} {base : Heap} {T : List (Addr × Str)} {f : Addr} {fd : FuncData}
abbrev sPath : Stmt := top 17
theorem sc_path : FnScope ["value", "place", "part", "found"] ["value"] (defScope sPath) := ⟨rfl, rfl, rfl, by decide +kernel, rfl, by decide +kernel, by decide +kernel⟩
def RPath (n : Nat) (ds : List PyData) (d : PyData) : Prop := ∃ s : S, ds = [s.enc] ∧ Wf s ∧ dep s ≤ 5 ∧ dep s ≤ n ∧ d = .none
theorem dep_pos (s : S) : 1 ≤ dep s := by cases s <;> simp only [dep] <;> omega
theorem w_path (F : Fun K "bad_path" "bad_path" sPath f fd) (hm : mg "bad_path" = some (.ref f)) (hb : Binds K fd ["value"] []) (G : Gb w mg K) (FF : Fd P w K mg base T 3 "has_form" RForm) (FP : Fd P w K mg base T 1 "parts_of" RParts) : ∀ n, Fd P w K mg base T (n + 4) "bad_path" (RPath n)
  | 0 => Fd.void F hm hb sc_path fun ds d ⟨s, _, _, _, h, _⟩ => by have := dep_pos s; omega
  | n + 1 => by
    have IH := w_path F hm hb G FF FP n
    show Fd P w K mg base T ((n + 4) + 1) _ _
    refine Fd.mk (m := 3) F hm hb sc_path (fun ds d ⟨x, e, _⟩ => by rw [e]; rfl) fun cdv A outer s H E ds d hr ⟨s, e1, hw, h5, hn, e2⟩ => ?_
    subst e1 e2
    have hfr := G.fr
    refine Dr.ifF (Dt.not (b := true) (Dt.val (De.call (FF.mono (by omega)) hr (Da.cons (dv 0 (d := s.enc)) Da.nil) ⟨s, rfl, hw, h5, rfl⟩))) ?_
    refine Dr.next (Dn1.forET (i := 1) (j := 2) hfr PassesOwn.never rfl (De.call (FP.mono (by omega)) hr (Da.cons (dv 0 (d := s.enc)) Da.nil) ⟨s, rfl, rfl⟩) (fun k d hd => ?_) rfl rfl
      (pg_tup rfl (pgs_cons (pg_name sc_path.nd rfl (Or.inl rfl)) (pgs_cons (pg_name sc_path.nd rfl (Or.inl rfl)) pgs_nil)))) (Dr.ret De.non)
    rw [List.getElem?_map] at hd
    obtain ⟨p, hp, rfl⟩ := Option.map_eq_some_iff.mp hd
    have hp := List.mem_of_getElem? hp
    have dp := parts_dep hp
    refine ⟨_, Dn.cons (Dn1.set (i := 3) sc_path.nd (De.call IH (hr.mono (by omega)) (Da.cons (dv 2 (d := p.enc)) Da.nil) ⟨p, rfl, parts_wf hw hp, by omega, by omega, rfl⟩)) (Dn.cons (Dn1.ifF (Dt.notN (dv 3 (d := .none)))) Dn.nil), ?_⟩
    exact Sub.tl (Sub.no (Sub.no (Sub.no Sub.ni)))

abbrev sWithin : Stmt := top 18
theorem sc_within : FnScope ["sort", "found", "part"] ["sort"] (defScope sWithin) := ⟨rfl, rfl, rfl, by decide +kernel, rfl, by decide +kernel, by decide +kernel⟩
def RWithin (n : Nat) (ds : List PyData) (d : PyData) : Prop := ∃ s : S, ds = [s.enc] ∧ dep s ≤ n ∧ (subsS s).length ≤ 100 ∧ d = .list ((subsS s).map S.enc)
theorem take_flat {α β : Type} (f : α → List β) (l : List α) {k : Nat} {x : α} (h : l[k]? = some x) : (l.take (k + 1)).flatMap f = (l.take k).flatMap f ++ f x := by
  rw [List.take_add_one, h, List.flatMap_append]
  simp
theorem w_within (F : Fun K "all_within" "all_within" sWithin f fd) (hm : mg "all_within" = some (.ref f)) (hb : Binds K fd ["sort"] []) (G : Gb w mg K) (FP : Fd P w K mg base T 1 "parts_of" RParts) : ∀ n, Fd P w K mg base T (n + 2) "all_within" (RWithin n)
  | 0 => Fd.void F hm hb sc_within fun ds d ⟨s, _, h, _⟩ => by have := dep_pos s; omega
  | n + 1 => by
    have IH := w_within F hm hb G FP n
    show Fd P w K mg base T ((n + 2) + 1) _ _
    refine Fd.mk (m := 2) F hm hb sc_within (fun ds d ⟨x, e, _⟩ => by rw [e]; rfl) fun cdv A outer s H E ds d hr ⟨s, e1, hn, few, e2⟩ => ?_
    subst e1 e2
    have hfr := G.fr
    have eq : (subsS s).map S.enc = [s.enc] ++ ((partsS s).take (partsS s).length).flatMap fun p => (subsS p).map S.enc := by
      rw [subs_eq, List.map_cons, List.map_flatMap, List.take_length]
      rfl
    refine Dr.start (i := 1) sc_within.nd (Da.cons (dv 0 (d := s.enc)) Da.nil) (by show 1 ≤ 1000; decide) ?_ (fun d h => by cases h)
    refine Axs.cons (Ax.for_ (j := 2) (n := (partsS s).length) (δ := [s.enc].map some ++ List.replicate 2 none) (ds := (partsS s).map S.enc) PassesOwn.never rfl (fun k => ([s.enc].map some ++ List.replicate 2 none, [s.enc] ++ ((partsS s).take k).flatMap fun p => (subsS p).map S.enc))
      (by show _ = (_, _); rw [List.take_zero]; rfl) (.inl (De.call (FP.mono (by omega)) hr (Da.cons (dv 0 (d := s.enc)) Da.nil) ⟨s, rfl, rfl⟩)) (by rw [List.length_map]; exact Nat.le_refl _) (fun k d hk hd => ?_) (.inl ⟨by rw [List.length_map], rfl⟩) (hg := pg_name sc_within.nd rfl (Or.inl rfl))) ?_
    · rw [List.getElem?_map] at hd
      obtain ⟨p, hp, rfl⟩ := Option.map_eq_some_iff.mp hd
      have hp2 := List.mem_of_getElem? hp
      have dp := parts_dep hp2
      have all : ((([s.enc] ++ ((partsS s).take k).flatMap fun p => (subsS p).map S.enc)).length + ((subsS p).map S.enc).length) ≤ (subsS s).length := by
        have z := congrArg List.length eq
        rw [List.take_length, ← List.take_append_drop (k + 1) (partsS s), List.flatMap_append, take_flat _ _ hp, List.length_map] at z
        simp only [List.length_append] at z ⊢
        omega
      have few2 := all
      rw [List.length_map] at few2
      show Axs _ T 1 (([s.enc].map some ++ List.replicate 2 none).set 2 (some p.enc)) ([s.enc] ++ ((partsS s).take k).flatMap fun p => (subsS p).map S.enc) _ (.nx ([s.enc].map some ++ List.replicate 2 none) ([s.enc] ++ ((partsS s).take (k + 1)).flatMap fun p => (subsS p).map S.enc))
      rw [take_flat _ _ hp, ← List.append_assoc]
      exact Axs.weak (δ₁ := ([s.enc].map some ++ List.replicate 2 none).set 2 (some p.enc)) (Axs.cons (Ax.ext (ds := (subsS p).map S.enc) (De.call IH (hr.mono (by omega)) (Da.cons (dv 2 (d := p.enc)) Da.nil) ⟨p, rfl, by omega, by omega, rfl⟩) (by omega)) Axs.nil) (by exact Sub.tl (Sub.no (Sub.no Sub.ni)))
    · show Axs _ T 1 _ ([s.enc] ++ ((partsS s).take (partsS s).length).flatMap fun p => (subsS p).map S.enc) _ _
      rw [← eq]
      exact Axs.rt Ax.retL
end
end LB
end
section
set_option autoImplicit false
set_option Elab.async false
set_option linter.all false
set_option maxRecDepth 100000
set_option maxHeartbeats 4000000
/-! Walks: the sorts, on. -/
namespace LB
open PySem PySem.Spec PyProof.Rows L2 LamX
section
variable {P : Program} {w : World} {K : PySem.W.Frag} {mg : Str → Option Value} {base : Heap} {T : List (Addr × Str)} {f : Addr} {fd : FuncData}
abbrev sDepth : Stmt := top 19
theorem sc_depth : FnScope ["sort", "part"] ["sort"] (defScope sDepth) := ⟨rfl, rfl, rfl, by decide +kernel, rfl, by decide +kernel, by decide +kernel⟩
def RDepth (n : Nat) (ds : List PyData) (d : PyData) : Prop := ∃ s : S, ds = [s.enc] ∧ dep s ≤ n ∧ d = .int (dep s : Nat)
theorem dep_max (s : S) : ∃ m : Nat, (m : Int) ∈ (0 : Int) :: (partsS s).map (fun p => (dep p : Int)) ∧ (∀ y ∈ (0 : Int) :: (partsS s).map (fun p => (dep p : Int)), y ≤ (m : Int)) ∧ 1 + m = dep s := by
  cases s with
  | mark ls => exact ⟨0, by simp, by simp [partsS], rfl⟩
  | count => exact ⟨0, by simp, by simp [partsS], rfl⟩
  | lane a => exact ⟨dep a, by simp [partsS], by simp [partsS], rfl⟩
  | heap a => exact ⟨dep a, by simp [partsS], by simp [partsS], rfl⟩
  | both a b =>
    refine ⟨max (dep a) (dep b), ?_, ?_, rfl⟩
    · rcases Nat.le_total (dep a) (dep b) with h | h
      · rw [Nat.max_eq_right h]; simp [partsS]
      · rw [Nat.max_eq_left h]; simp [partsS]
    · intro y hy
      simp only [partsS, List.map_cons, List.map_nil, List.mem_cons, List.not_mem_nil, or_false] at hy
      rcases hy with rfl | rfl | rfl <;> omega
  | either a b =>
    refine ⟨max (dep a) (dep b), ?_, ?_, rfl⟩
    · rcases Nat.le_total (dep a) (dep b) with h | h
      · rw [Nat.max_eq_right h]; simp [partsS]
      · rw [Nat.max_eq_left h]; simp [partsS]
    · intro y hy
      simp only [partsS, List.map_cons, List.map_nil, List.mem_cons, List.not_mem_nil, or_false] at hy
      rcases hy with rfl | rfl | rfl <;> omega
theorem parts_few (s : S) : (partsS s).length ≤ 2 := by cases s <;> simp [partsS]
theorem enc_at {s p : S} {l : List S} {k : Nat} {d : PyData} (h : (l.map S.enc)[k]? = some d) : ∃ p, l[k]? = some p ∧ d = p.enc := by
  rw [List.getElem?_map] at h
  obtain ⟨p, hp, e⟩ := Option.map_eq_some_iff.mp h
  exact ⟨p, hp, e.symm⟩
theorem w_depth (F : Fun K "depth" "depth" sDepth f fd) (hm : mg "depth" = some (.ref f)) (hb : Binds K fd ["sort"] []) (G : Gb w mg K) (FP : Fd P w K mg base T 1 "parts_of" RParts) : ∀ n, Fd P w K mg base T (n + 2) "depth" (RDepth n)
  | 0 => Fd.void F hm hb sc_depth fun ds d ⟨s, _, h, _⟩ => by have := dep_pos s; omega
  | n + 1 => by
    have IH := w_depth F hm hb G FP n
    show Fd P w K mg base T ((n + 2) + 1) _ _
    refine Fd.mk (m := 1) F hm hb sc_depth (fun ds d ⟨x, e, _⟩ => by rw [e]; rfl) fun cdv A outer s H E ds d hr ⟨s, e1, hn, e2⟩ => ?_
    subst e1 e2
    have hfr := G.fr
    obtain ⟨m, hm1, hm2, hm3⟩ := dep_max s
    refine Dr.ret (De.cast (De.add De.int (De.max (ns := (0 : Int) :: (partsS s).map (fun p => (dep p : Int))) (m := (m : Int)) hfr rfl (De.cast (De.lst (Da.cons De.int (Da.star (.inl (De.lcm (es := (partsS s).map fun p => .int (dep p : Nat)) rfl sc_depth.nd
      (src_t (i := 1) (De.call (FP.mono (by omega)) hr (Da.cons (dv 0 (d := s.enc)) Da.nil) ⟨s, rfl, rfl⟩) (fun _ _ _ _ _ => pg_name sc_depth.nd rfl (Or.inl rfl))) ?_ ?_ (fun j b e hb he s2 H2 C cl fp => ?_) (blkOk_by (N := ["sort", "part"]) (sc := defScope sDepth) (own := [("part", 1)]) (by decide +kernel)))) Da.nil)) ?_) ?_) hm1 hm2)) ?_)
    · rw [ones_len, List.length_map, List.length_map]
    · rw [ones_len, List.length_map]
      have := parts_few s
      omega
    · obtain ⟨d, hd, rfl⟩ := ones_at hb
      obtain ⟨p, hp, rfl⟩ := enc_at (s := s) (p := s) hd
      rw [List.getElem?_map, hp] at he
      cases he
      have dp := parts_dep (List.mem_of_getElem? hp)
      exact De.call IH (hr.mono (by omega)) (Da.cons (dv 1 (d := p.enc)) Da.nil) ⟨p, rfl, by omega, rfl⟩
    · simp only [List.length_append, List.length_cons, List.length_map, List.length_nil]
      have := parts_few s
      omega
    · simp [Function.comp_def]
    · rw [← hm3]
      exact congrArg PyData.int (by omega)

abbrev sComp : Stmt := top 20
theorem sc_comp : FnScope ["sort", "part", "numbers"] ["sort"] (defScope sComp) := ⟨rfl, rfl, rfl, by decide +kernel, rfl, by decide +kernel, by decide +kernel⟩
def RComp (n : Nat) (ds : List PyData) (d : PyData) : Prop := ∃ s : S, ds = [s.enc] ∧ dep s ≤ n ∧ (∀ p ∈ subsS s, cmpS p ≤ 27) ∧ d = .int (cmpS s : Nat)
theorem subs_own {s p : S} (h : p ∈ partsS s) : p ∈ subsS s := subs_part h (subs_self p)
theorem w_comp (F : Fun K "raw_components" "raw_components" sComp f fd) (hm : mg "raw_components" = some (.ref f)) (hb : Binds K fd ["sort"] []) (G : Gb w mg K) (FP : Fd P w K mg base T 1 "parts_of" RParts) : ∀ n, Fd P w K mg base T (n + 2) "raw_components" (RComp n)
  | 0 => Fd.void F hm hb sc_comp fun ds d ⟨s, _, h, _⟩ => by have := dep_pos s; omega
  | n + 1 => by
    have IH := w_comp F hm hb G FP n
    show Fd P w K mg base T ((n + 2) + 1) _ _
    refine Fd.mk (m := 2) F hm hb sc_comp (fun ds d ⟨x, e, _⟩ => by rw [e]; rfl) fun cdv A outer s H E ds d hr ⟨s, e1, hn, hc, e2⟩ => ?_
    subst e1 e2
    have hfr := G.fr
    have num : ∀ s : S, dep s ≤ n + 1 → (∀ p ∈ subsS s, cmpS p ≤ 27) → ∀ (s0 : Shared) (cdv : Value) (H : Hp) (E : XK), Room (n + 2) (A.deeper (envOfC "raw_components" (defScope sComp) s0.heap.objs.size f cdv)) →
        Dn1 (cxOf CX0 P w K mg base ["sort", "part", "numbers"] "raw_components" (defScope sComp) f cdv A outer s0 H E).nox T [some s.enc, none, none] ((defBody sComp).getD 1 (.Pass ⟨0, 0, 0, 0⟩)) [some s.enc, none, some (.list ((partsS s).map fun p => .int (cmpS p : Nat)))] := by
      intro s hn hc s0 cdv H E hr
      refine Dn1.ofS (i := 2) (δ := [some s.enc, none, none]) (Ds.lcm (es := (partsS s).map fun p => .int (cmpS p : Nat)) rfl sc_comp.nd
        (src_t (i := 1) (De.call (FP.mono (by omega)) hr (Da.cons (dv 0 (d := s.enc)) Da.nil) ⟨s, rfl, rfl⟩) (fun _ _ _ _ _ => pg_name sc_comp.nd rfl (Or.inl rfl))) ?_ ?_ (fun j b e hb he s2 H2 C cl fp => ?_) (blkOk_by (N := ["sort", "part", "numbers"]) (sc := defScope sComp) (own := [("part", 1)]) (by decide +kernel)) (sw_true rfl rfl rfl rfl)) (by show 2 < 3; decide)
      · rw [ones_len, List.length_map, List.length_map]
      · rw [ones_len, List.length_map]
        have := parts_few s
        omega
      · obtain ⟨d, hd, rfl⟩ := ones_at hb
        obtain ⟨p, hp, rfl⟩ := enc_at (s := s) (p := s) hd
        rw [List.getElem?_map, hp] at he
        cases he
        have hp2 := List.mem_of_getElem? hp
        have dp := parts_dep hp2
        exact De.call IH (hr.mono (by omega)) (Da.cons (dv 1 (d := p.enc)) Da.nil) ⟨p, rfl, by omega, fun q hq => hc q (subs_part hp2 hq), rfl⟩
    cases s with
    | mark ls => exact Dr.ifT (Dt.kindIs (k := kMark) (s := .mark ls) (dv 0)) (Dr.ret (De.cast (De.len hfr (De.ixT (k := 1) (d := .tuple (ls.map .str)) (De.enc (s := .mark ls) (dv 0)) De.int rfl)) (by rw [List.length_map]; rfl)))
    | count =>
      refine Dr.ifF (Dt.kindIs (k := kCount) (s := .count) (dv 0)) (Dr.next (num .count hn hc _ _ _ _ hr) ?_)
      exact Dr.ifF (Dt.kindIs (k := kCount) (s := .count) (dv 0)) (Dr.ret (De.ifF (Dt.kindIs (k := kCount) (s := .count) (dv 0)) De.int))
    | lane a =>
      refine Dr.ifF (Dt.kindIs (k := kLane) (s := .lane a) (dv 0)) (Dr.next (num (.lane a) hn hc _ _ _ _ hr) ?_)
      exact Dr.ifF (Dt.kindIs (k := kLane) (s := .lane a) (dv 0)) (Dr.ret (De.ifF (Dt.kindIs (k := kLane) (s := .lane a) (dv 0)) De.int))
    | heap a =>
      refine Dr.ifF (Dt.kindIs (k := kHeap) (s := .heap a) (dv 0)) (Dr.next (num (.heap a) hn hc _ _ _ _ hr) ?_)
      exact Dr.ifF (Dt.kindIs (k := kHeap) (s := .heap a) (dv 0)) (Dr.ret (De.ifF (Dt.kindIs (k := kHeap) (s := .heap a) (dv 0)) De.int))
    | both a b =>
      refine Dr.ifF (Dt.kindIs (k := kBoth) (s := .both a b) (dv 0)) (Dr.next (num (.both a b) hn hc _ _ _ _ hr) ?_)
      have ca := hc a (subs_own (by simp [partsS]))
      have cb := hc b (subs_own (by simp [partsS]))
      have cs := hc (.both a b) (subs_self _)
      refine Dr.ifT (Dt.kindIs (k := kBoth) (s := .both a b) (dv 0)) (Dr.ret (De.cast (De.mul (i := cmpS a) (j := cmpS b) (De.ixL (k := 0) (dv 2 (d := .list [.int (cmpS a : Nat), .int (cmpS b : Nat)])) De.int rfl) (De.ixL (k := 1) (dv 2 (d := .list [.int (cmpS a : Nat), .int (cmpS b : Nat)])) De.int rfl) ?_ ?_) ?_))
      · omega
      · omega
      · show PyData.int _ = .int ((cmpS a * cmpS b : Nat) : Int)
        rw [Int.natCast_mul]
    | either a b =>
      refine Dr.ifF (Dt.kindIs (k := kEither) (s := .either a b) (dv 0)) (Dr.next (num (.either a b) hn hc _ _ _ _ hr) ?_)
      refine Dr.ifF (Dt.kindIs (k := kEither) (s := .either a b) (dv 0)) (Dr.ret (De.ifT (Dt.kindIs (k := kEither) (s := .either a b) (dv 0)) (De.cast (De.sum (ns := [(cmpS a : Int), (cmpS b : Int)]) hfr rfl (dv 2 (d := .list [.int (cmpS a : Nat), .int (cmpS b : Nat)]))) ?_)))
      show PyData.int ([(cmpS a : Int), (cmpS b : Int)].sum) = .int ((cmpS a + cmpS b : Nat) : Int)
      exact congrArg PyData.int (by simp)
end
end LB
end
section
set_option autoImplicit false
set_option Elab.async false
set_option linter.all false
set_option maxRecDepth 100000
set_option maxHeartbeats 4000000
/-! Walks: the sorts, the end. -/
namespace LB
open PySem PySem.Spec PyProof.Rows L2 LamX
section
variable {P : Program} {w : World} {K : PySem.W.Frag} {mg : Str → Option Value} {base : Heap} {T : List (Addr × Str)} {f : Addr} {fd : FuncData}
abbrev sSmall : Stmt := top 21
theorem sc_small : FnScope ["sort", "some", "one"] ["sort"] (defScope sSmall) := ⟨rfl, rfl, rfl, by decide +kernel, rfl, by decide +kernel, by decide +kernel⟩
def RSmall (ds : List PyData) (d : PyData) : Prop := ∃ s : S, ds = [s.enc] ∧ Good s ∧ d = .bool true
theorem row_enc (s : S) : gRow s.enc = if inS (kindS s) ["lane", "heap"] = true then some s.enc else none := by
  cases s <;> rfl
theorem w_small (F : Fun K "is_small" "is_small" sSmall f fd) (hm : mg "is_small" = some (.ref f)) (hb : Binds K fd ["sort"] []) (G : Gb w mg K) (FI : Fd P w K mg base T 7 "all_within" (RWithin 5)) (FD : Fd P w K mg base T 7 "depth" (RDepth 5)) (FC : Fd P w K mg base T 7 "raw_components" (RComp 5)) :
    Fd P w K mg base T 8 "is_small" RSmall := by
  refine Fd.mk (m := 2) F hm hb sc_small (fun ds d ⟨x, e, _⟩ => by rw [e]; rfl) fun cdv A outer s H E ds d hr ⟨s, e1, g, e2⟩ => ?_
  subst e1 e2
  have hfr := G.fr
  have lenS : ((subsS s).map S.enc).length = (subsS s).length := List.length_map ..
  have h11 := g.sm
  have h5 := g.dp
  refine Dr.next (Dn1.set (i := 1) sc_small.nd (De.call FI hr (Da.cons (dv 0 (d := s.enc)) Da.nil) ⟨s, rfl, g.dp, by omega, rfl⟩)) ?_
  refine Dr.ifF (Dt.w (Dw.orF (Dt.cast (Dt.gtI (De.lenL hfr (dv 1 (d := .list ((subsS s).map S.enc)))) (De.glob G.mTuples)) (decide_eq_false (by rw [lenS]; omega))) (Dw.or1 (Dt.cast (Dt.gtI (De.call FD hr (Da.cons (dv 0 (d := s.enc)) Da.nil) ⟨s, rfl, g.dp, rfl⟩) (De.glob G.mDeep)) (decide_eq_false (by omega)))))) ?_
  refine Dr.ifF (Dt.cast (Dt.gtI (De.lenL (ds := ((subsS s).map S.enc).filterMap gRow) hfr (De.cast (De.lc (ok := fun δ b => TstOk _ T _ δ _ b) (out := fun j => ((subsS s).map S.enc)[j]?.bind gRow) rfl sc_small.nd (src_l (i := 2) (dv 1 (d := .list ((subsS s).map S.enc))) (fun _ _ _ _ _ => pg_name sc_small.nd rfl (Or.inl rfl))) ift_one ?_
    (fun j b hb s2 H2 C cl fp => ?_) (fun j b e hb he s2 H2 C cl fp => ?_) (blkOk_by (N := ["sort", "some", "one"]) (sc := defScope sSmall) (own := [("one", 2)]) (by decide +kernel))) ?_)) (De.glob G.mRows)) (decide_eq_false (by have := g.rw; omega))) ?_
  · rw [ones_len, lenS]
    omega
  · obtain ⟨d, hd, rfl⟩ := ones_at hb
    obtain ⟨p, hp, rfl⟩ := enc_at (s := s) (p := s) hd
    refine Dt.cast (Dt.inT (zs := ["lane", "heap"]) (De.kind (s := p) (dv 2)) (De.tup (Da.cons De.str (Da.cons De.str Da.nil)))) ?_
    rw [hd]
    show inS (kindS p) ["lane", "heap"] = (gRow p.enc).isSome
    rw [row_enc]
    cases inS (kindS p) ["lane", "heap"] <;> rfl
  · obtain ⟨d, hd, rfl⟩ := ones_at hb
    obtain ⟨p, hp, rfl⟩ := enc_at (s := s) (p := s) hd
    rw [hd] at he
    have he : gRow p.enc = some e := he
    rw [row_enc] at he
    have ee : p.enc = e := by
      split at he
      · exact Option.some.inj he
      · cases he
    exact De.cast (dv 2 (d := p.enc)) ee
  · rw [ones_len, range_bind]
  · refine Dr.ret (De.allT (ds := (subsS s).map fun _ => .bool true) hfr rfl (De.lcm rfl sc_small.nd (src_l (i := 2) (dv 1 (d := .list ((subsS s).map S.enc))) (fun _ _ _ _ _ => pg_name sc_small.nd rfl (Or.inl rfl))) ?_ ?_ (fun j b e hb he s2 H2 C cl fp => ?_)
      (blkOk_by (N := ["sort", "some", "one"]) (sc := defScope sSmall) (own := [("one", 2)]) (by decide +kernel))) fun d hd => ?_)
    · rw [ones_len, List.length_map, List.length_map]
    · rw [ones_len, lenS]
      omega
    · obtain ⟨d, hd, rfl⟩ := ones_at hb
      obtain ⟨p, hp, rfl⟩ := enc_at (s := s) (p := s) hd
      rw [List.getElem?_map, hp] at he
      cases he
      have mp := List.mem_of_getElem? hp
      have := g.cm p mp
      have := subs_dep mp
      exact De.cast (De.leI (De.call FC hr (Da.cons (dv 2 (d := p.enc)) Da.nil) ⟨p, rfl, by omega, fun q hq => g.cm q (subs_trans mp hq), rfl⟩) (De.glob G.mComp)) (congrArg PyData.bool (decide_eq_true (by omega)))
    · obtain ⟨_, _, rfl⟩ := List.mem_map.mp hd
      rfl

abbrev sCheck : Stmt := top 22
theorem sc_check : FnScope ["value", "path"] ["value"] (defScope sCheck) := ⟨rfl, rfl, rfl, by decide +kernel, rfl, by decide +kernel, by decide +kernel⟩
def RCheck (ds : List PyData) (d : PyData) : Prop := (∃ s : S, ds = [s.enc] ∧ Good s) ∧ d = .none
theorem w_check (F : Fun K "check_sort" "check_sort" sCheck f fd) (hm : mg "check_sort" = some (.ref f)) (hb : Binds K fd ["value"] []) (G : Gb w mg K) (FP : Fd P w K mg base T 9 "bad_path" (RPath 5)) (FS : Fd P w K mg base T 8 "is_small" RSmall) : Fd P w K mg base T 10 "check_sort" RCheck := by
  refine Fd.mkN (m := 1) F hm hb sc_check (fun ds ⟨x, e, _⟩ => by rw [e]; rfl) fun cdv A outer s H E ds hr ⟨s, e1, g⟩ => ?_
  subst e1
  refine ⟨_, Dn.cons (Dn1.set (i := 1) sc_check.nd (De.call FP hr (Da.cons (dv 0 (d := s.enc)) Da.nil) ⟨s, rfl, g.wf, g.dp, g.dp, rfl⟩)) (Dn.cons (Dn1.ifF (Dt.notN (dv 1 (d := .none)))) (Dn.cons (Dn1.ifF (Dt.not (b := true) (Dt.val (De.call (FS.mono (by decide)) hr (Da.cons (dv 0 (d := s.enc)) Da.nil) ⟨s, rfl, g, rfl⟩)))) Dn.nil))⟩
end
end LB
end
section
set_option autoImplicit false
set_option Elab.async false
set_option linter.all false
set_option maxRecDepth 100000
set_option maxHeartbeats 4000000
/-! Values and keys may be ordered. -/
namespace LB
open PySem PySem.W PyProof.Rows

theorem plAll_map {α : Type} {f : α → PyData} {xs : List α} (h : ∀ x ∈ xs, pl (f x) = true) : plAll (xs.map f) = true := by
  rw [plAll_iff]
  intro d hd
  obtain ⟨x, hx, rfl⟩ := List.mem_map.mp hd
  exact h x hx
theorem walAll_map {f : PyData → PyData} : ∀ {xs ys : List PyData}, (∀ x ∈ xs, ∀ y ∈ ys, wal (f x) (f y) = true) → walAll (xs.map f) (ys.map f) = true
  | [], _, _ => by simp [walAll]
  | x :: xs, [], _ => by simp [walAll]
  | x :: xs, y :: ys, h => by
    simp only [List.map_cons, walAll, Bool.and_eq_true, Bool.or_eq_true]
    exact ⟨h x List.mem_cons_self y List.mem_cons_self, .inr (walAll_map fun x hx y hy => h x (List.mem_cons_of_mem _ hx) y (List.mem_cons_of_mem _ hy))⟩
theorem depth_map {f : PyData → PyData} {xs : List PyData} {n : Nat} (h : ∀ x ∈ xs, (f x).depth ≤ n) : PyData.depthAll (xs.map f) ≤ n :=
  depthAll_le fun d hd => by
    obtain ⟨x, hx, rfl⟩ := List.mem_map.mp hd
    exact h x hx
theorem wal2 {a b c d : PyData} (h1 : wal a c = true) (h2 : wal b d = true) : wal (.tuple [a, b]) (.tuple [c, d]) = true := by
  simp only [wal, walAll, h1, h2, Bool.and_self, Bool.or_true]
theorem walI {i j : Int} {b d : PyData} (h : i = j → wal b d = true) : wal (.tuple [.int i, b]) (.tuple [.int j, d]) = true := by
  simp only [wal, walAll, PyData.eqv, Bool.true_and, Bool.and_true, Bool.or_true, Bool.and_self]
  by_cases c : i = j
  · simp [h c]
  · simp [c]
theorem walS {i j : Str} {b d : PyData} (h : i = j → wal b d = true) : wal (.tuple [.str i, b]) (.tuple [.str j, d]) = true := by
  simp only [wal, walAll, PyData.eqv, Bool.true_and, Bool.and_true, Bool.or_true, Bool.and_self]
  by_cases c : i = j
  · simp [h c]
  · have e : (i == j) = false := by
      cases q : i == j with
      | false => rfl
      | true => exact absurd (eq_of_beq q) c
    simp [e]
theorem keyV_ok : ∀ (s : S) (x : PyData), T s x → pl (keyV s x) = true ∧ (keyV s x).depth ≤ dep s
  | .mark ls, x, h => by
    obtain ⟨z, _, rfl⟩ := h
    exact ⟨rfl, Nat.le_refl _⟩
  | .count, x, h => by
    obtain ⟨n, _, rfl⟩ := h
    exact ⟨rfl, Nat.le_refl _⟩
  | .both a b, x, h => by
    obtain ⟨x1, x2, rfl, h1, h2⟩ := h
    have a1 := keyV_ok a x1 h1
    have a2 := keyV_ok b x2 h2
    refine ⟨by simp only [keyV, pl, plAll, a1.1, a2.1, Bool.and_self], ?_⟩
    show max (keyV a x1).depth (max (keyV b x2).depth 0) + 1 ≤ 1 + max (dep a) (dep b)
    have := a1.2
    have := a2.2
    omega
  | .either a b, x, h => by
    rcases h with ⟨y, rfl, hy⟩ | ⟨y, rfl, hy⟩
    · have a1 := keyV_ok a y hy
      simp only [keyV, if_pos True.intro]
      refine ⟨by simp only [pl, plAll, a1.1, Bool.and_self], ?_⟩
      show max 0 (max (keyV a y).depth 0) + 1 ≤ 1 + max (dep a) (dep b)
      have := a1.2
      omega
    · have a1 := keyV_ok b y hy
      simp only [keyV, if_neg nRL]
      refine ⟨by simp only [pl, plAll, a1.1, Bool.and_self], ?_⟩
      show max 0 (max (keyV b y).depth 0) + 1 ≤ 1 + max (dep a) (dep b)
      have := a1.2
      omega
  | .lane a, x, h => by
    obtain ⟨xs, rfl, _, hx⟩ := h
    refine ⟨plAll_map fun x m => (keyV_ok a x (hx x m)).1, ?_⟩
    show PyData.depthAll (xs.map (keyV a)) + 1 ≤ 1 + dep a
    have := depth_map (f := keyV a) fun x m => (keyV_ok a x (hx x m)).2
    omega
  | .heap a, x, h => by
    obtain ⟨xs, rfl, _, hx, _⟩ := h
    refine ⟨plAll_map fun x m => (keyV_ok a x (hx x m)).1, ?_⟩
    show PyData.depthAll (xs.map (keyV a)) + 1 ≤ 1 + dep a
    have := depth_map (f := keyV a) fun x m => (keyV_ok a x (hx x m)).2
    omega
theorem keyL_ok : ∀ (s : S) (x : PyData), T s x → pl (keyL s x) = true ∧ (keyL s x).depth ≤ dep s
  | .mark ls, x, h => by
    obtain ⟨z, _, rfl⟩ := h
    exact ⟨rfl, Nat.zero_le _⟩
  | .count, x, h => by
    obtain ⟨n, _, rfl⟩ := h
    exact ⟨rfl, Nat.zero_le _⟩
  | .both a b, x, h => by
    obtain ⟨x1, x2, rfl, h1, h2⟩ := h
    have a1 := keyL_ok a x1 h1
    have a2 := keyL_ok b x2 h2
    refine ⟨by simp only [keyL, pl, plAll, a1.1, a2.1, Bool.and_self], ?_⟩
    show max (keyL a x1).depth (max (keyL b x2).depth 0) + 1 ≤ 1 + max (dep a) (dep b)
    have := a1.2
    have := a2.2
    omega
  | .either a b, x, h => by
    rcases h with ⟨y, rfl, hy⟩ | ⟨y, rfl, hy⟩
    · have a1 := keyL_ok a y hy
      simp only [keyL, if_neg nLR]
      refine ⟨by simp only [pl, plAll, a1.1, Bool.and_self], ?_⟩
      show max 0 (max (keyL a y).depth 0) + 1 ≤ 1 + max (dep a) (dep b)
      have := a1.2
      omega
    · have a1 := keyL_ok b y hy
      simp only [keyL, if_pos True.intro]
      refine ⟨by simp only [pl, plAll, a1.1, Bool.and_self], ?_⟩
      show max 0 (max (keyL b y).depth 0) + 1 ≤ 1 + max (dep a) (dep b)
      have := a1.2
      omega
  | .lane a, x, h => by
    obtain ⟨xs, rfl, _, hx⟩ := h
    refine ⟨plAll_map fun x m => (keyL_ok a x (hx x m)).1, ?_⟩
    show PyData.depthAll (xs.map (keyL a)) + 1 ≤ 1 + dep a
    have := depth_map (f := keyL a) fun x m => (keyL_ok a x (hx x m)).2
    omega
  | .heap a, x, h => by
    obtain ⟨xs, rfl, _, hx, _⟩ := h
    refine ⟨plAll_map fun x m => (keyL_ok a x (hx x m)).1, ?_⟩
    show PyData.depthAll (xs.map (keyL a)) + 1 ≤ 1 + dep a
    have := depth_map (f := keyL a) fun x m => (keyL_ok a x (hx x m)).2
    omega
theorem T_ok : ∀ (s : S) (x : PyData), Wf s → T s x → pl x = true ∧ x.depth ≤ dep s
  | .mark ls, x, w, h => by
    obtain ⟨z, hz, rfl⟩ := h
    exact ⟨word_ok (w.2.2.2 z hz), Nat.zero_le _⟩
  | .count, x, _, h => by
    obtain ⟨n, _, rfl⟩ := h
    exact ⟨rfl, Nat.zero_le _⟩
  | .both a b, x, w, h => by
    obtain ⟨x1, x2, rfl, h1, h2⟩ := h
    have a1 := T_ok a x1 w.1 h1
    have a2 := T_ok b x2 w.2 h2
    refine ⟨by simp only [pl, plAll, a1.1, a2.1, Bool.and_self], ?_⟩
    show max x1.depth (max x2.depth 0) + 1 ≤ 1 + max (dep a) (dep b)
    have := a1.2
    have := a2.2
    omega
  | .either a b, x, w, h => by
    rcases h with ⟨y, rfl, hy⟩ | ⟨y, rfl, hy⟩
    · have a1 := T_ok a y w.1 hy
      refine ⟨by simp only [pl, plAll, a1.1, Bool.and_self, Bool.and_true]; decide +kernel, ?_⟩
      show max 0 (max y.depth 0) + 1 ≤ 1 + max (dep a) (dep b)
      have := a1.2
      omega
    · have a1 := T_ok b y w.2 hy
      refine ⟨by simp only [pl, plAll, a1.1, Bool.and_self, Bool.and_true]; decide +kernel, ?_⟩
      show max 0 (max y.depth 0) + 1 ≤ 1 + max (dep a) (dep b)
      have := a1.2
      omega
  | .lane a, x, w, h => by
    obtain ⟨xs, rfl, _, hx⟩ := h
    refine ⟨(plAll_iff xs).mpr fun x m => (T_ok a x w (hx x m)).1, ?_⟩
    show PyData.depthAll xs + 1 ≤ 1 + dep a
    have := depthAll_le fun x m => (T_ok a x w (hx x m)).2
    omega
  | .heap a, x, w, h => by
    obtain ⟨xs, rfl, _, hx, _⟩ := h
    refine ⟨(plAll_iff xs).mpr fun x m => (T_ok a x w (hx x m)).1, ?_⟩
    show PyData.depthAll xs + 1 ≤ 1 + dep a
    have := depthAll_le fun x m => (T_ok a x w (hx x m)).2
    omega
theorem keyV_wal : ∀ (s : S) (x y : PyData), T s x → T s y → wal (keyV s x) (keyV s y) = true
  | .mark ls, x, y, hx, hy => by
    obtain ⟨z, _, rfl⟩ := hx
    obtain ⟨z, _, rfl⟩ := hy
    simp only [keyV, wal, walAll, Bool.true_and, Bool.or_true]
  | .count, x, y, hx, hy => by
    obtain ⟨n, _, rfl⟩ := hx
    obtain ⟨n, _, rfl⟩ := hy
    simp only [keyV, wal, walAll, Bool.true_and, Bool.or_true]
  | .both a b, x, y, hx, hy => by
    obtain ⟨x1, x2, rfl, h1, h2⟩ := hx
    obtain ⟨y1, y2, rfl, g1, g2⟩ := hy
    exact wal2 (keyV_wal a x1 y1 h1 g1) (keyV_wal b x2 y2 h2 g2)
  | .either a b, x, y, hx, hy => by
    rcases hx with ⟨u, rfl, hu⟩ | ⟨u, rfl, hu⟩ <;> rcases hy with ⟨v, rfl, hv⟩ | ⟨v, rfl, hv⟩ <;> simp only [keyV, if_pos True.intro, if_neg nRL]
    · exact walI fun _ => keyV_wal a u v hu hv
    · exact walI fun z => absurd z (by decide)
    · exact walI fun z => absurd z (by decide)
    · exact walI fun _ => keyV_wal b u v hu hv
  | .lane a, x, y, hx, hy => by
    obtain ⟨xs, rfl, _, h1⟩ := hx
    obtain ⟨ys, rfl, _, h2⟩ := hy
    exact walAll_map fun x hx y hy => keyV_wal a x y (h1 x hx) (h2 y hy)
  | .heap a, x, y, hx, hy => by
    obtain ⟨xs, rfl, _, h1, _⟩ := hx
    obtain ⟨ys, rfl, _, h2, _⟩ := hy
    exact walAll_map fun x hx y hy => keyV_wal a x y (h1 x hx) (h2 y hy)
theorem keyL_wal : ∀ (s : S) (x y : PyData), T s x → T s y → wal (keyL s x) (keyL s y) = true
  | .mark ls, x, y, hx, hy => by
    obtain ⟨z, _, rfl⟩ := hx
    obtain ⟨z, _, rfl⟩ := hy
    simp only [keyL, wal]
  | .count, x, y, hx, hy => by
    obtain ⟨n, _, rfl⟩ := hx
    obtain ⟨n, _, rfl⟩ := hy
    simp only [keyL, wal]
  | .both a b, x, y, hx, hy => by
    obtain ⟨x1, x2, rfl, h1, h2⟩ := hx
    obtain ⟨y1, y2, rfl, g1, g2⟩ := hy
    exact wal2 (keyL_wal a x1 y1 h1 g1) (keyL_wal b x2 y2 h2 g2)
  | .either a b, x, y, hx, hy => by
    rcases hx with ⟨u, rfl, hu⟩ | ⟨u, rfl, hu⟩ <;> rcases hy with ⟨v, rfl, hv⟩ | ⟨v, rfl, hv⟩ <;> simp only [keyL, if_pos True.intro, if_neg nLR]
    · exact walI fun _ => keyL_wal a u v hu hv
    · exact walI fun z => absurd z (by decide)
    · exact walI fun z => absurd z (by decide)
    · exact walI fun _ => keyL_wal b u v hu hv
  | .lane a, x, y, hx, hy => by
    obtain ⟨xs, rfl, _, h1⟩ := hx
    obtain ⟨ys, rfl, _, h2⟩ := hy
    exact walAll_map fun x hx y hy => keyL_wal a x y (h1 x hx) (h2 y hy)
  | .heap a, x, y, hx, hy => by
    obtain ⟨xs, rfl, _, h1, _⟩ := hx
    obtain ⟨ys, rfl, _, h2, _⟩ := hy
    exact walAll_map fun x hx y hy => keyL_wal a x y (h1 x hx) (h2 y hy)
theorem T_wal : ∀ (s : S) (x y : PyData), T s x → T s y → wal x y = true
  | .mark ls, x, y, hx, hy => by
    obtain ⟨z, _, rfl⟩ := hx
    obtain ⟨z, _, rfl⟩ := hy
    simp only [wal]
  | .count, x, y, hx, hy => by
    obtain ⟨n, _, rfl⟩ := hx
    obtain ⟨n, _, rfl⟩ := hy
    simp only [wal]
  | .both a b, x, y, hx, hy => by
    obtain ⟨x1, x2, rfl, h1, h2⟩ := hx
    obtain ⟨y1, y2, rfl, g1, g2⟩ := hy
    exact wal2 (T_wal a x1 y1 h1 g1) (T_wal b x2 y2 h2 g2)
  | .either a b, x, y, hx, hy => by
    rcases hx with ⟨u, rfl, hu⟩ | ⟨u, rfl, hu⟩ <;> rcases hy with ⟨v, rfl, hv⟩ | ⟨v, rfl, hv⟩
    · exact walS fun _ => T_wal a u v hu hv
    · exact walS fun z => absurd z nLR
    · exact walS fun z => absurd z nRL
    · exact walS fun _ => T_wal b u v hu hv
  | .lane a, x, y, hx, hy => by
    obtain ⟨xs, rfl, _, h1⟩ := hx
    obtain ⟨ys, rfl, _, h2⟩ := hy
    have z := walAll_map (f := id) fun x hx y hy => T_wal a x y (h1 x hx) (h2 y hy)
    rw [List.map_id, List.map_id] at z
    exact z
  | .heap a, x, y, hx, hy => by
    obtain ⟨xs, rfl, _, h1, _⟩ := hx
    obtain ⟨ys, rfl, _, h2, _⟩ := hy
    have z := walAll_map (f := id) fun x hx y hy => T_wal a x y (h1 x hx) (h2 y hy)
    rw [List.map_id, List.map_id] at z
    exact z
theorem keyV_ord {s : S} {ds : List PyData} (h5 : dep s ≤ 5) (h : ∀ d ∈ ds, T s d) : Ord (ds.map (keyV s)) where
  pl := fun d hd => by
    obtain ⟨x, hx, rfl⟩ := List.mem_map.mp hd
    exact (keyV_ok s x (h x hx)).1
  wal := fun d hd e he => by
    obtain ⟨x, hx, rfl⟩ := List.mem_map.mp hd
    obtain ⟨y, hy, rfl⟩ := List.mem_map.mp he
    exact keyV_wal s x y (h x hx) (h y hy)
  deep := fun d hd => by
    obtain ⟨x, hx, rfl⟩ := List.mem_map.mp hd
    have := (keyV_ok s x (h x hx)).2
    omega
theorem keyL_ord {s : S} {ds : List PyData} (h5 : dep s ≤ 5) (h : ∀ d ∈ ds, T s d) : Ord (ds.map (keyL s)) where
  pl := fun d hd => by
    obtain ⟨x, hx, rfl⟩ := List.mem_map.mp hd
    exact (keyL_ok s x (h x hx)).1
  wal := fun d hd e he => by
    obtain ⟨x, hx, rfl⟩ := List.mem_map.mp hd
    obtain ⟨y, hy, rfl⟩ := List.mem_map.mp he
    exact keyL_wal s x y (h x hx) (h y hy)
  deep := fun d hd => by
    obtain ⟨x, hx, rfl⟩ := List.mem_map.mp hd
    have := (keyL_ok s x (h x hx)).2
    omega
theorem T_ord {s : S} {ds : List PyData} (w : Wf s) (h5 : dep s ≤ 5) (h : ∀ d ∈ ds, T s d) : Ord ds where
  pl := fun d hd => (T_ok s d w (h d hd)).1
  wal := fun d hd e he => T_wal s d e (h d hd) (h e he)
  deep := fun d hd => by
    have := (T_ok s d w (h d hd)).2
    omega
theorem T_shaped {s : S} {d : PyData} (w : Wf s) (h5 : dep s ≤ 5) (h : T s d) : SeqAt.shaped d = true := by
  have z := T_ok s d w h
  exact Bool.and_eq_true_iff.mpr ⟨pl_lay d z.1, decide_eq_true (by omega)⟩
theorem T_eqv {s : S} {x y : PyData} (w : Wf s) (hx : T s x) (hy : T s y) : PyData.eqv x y = true ↔ x = y := eqv_iff x y (T_ok s x w hx).1 (T_ok s y w hy).1
/-! ### places of marks -/
theorem ix_at : ∀ {ls : List Str} {x : Str}, x ∈ ls → ls[ix ls x]? = some x
  | l :: ls, x, h => by
    unfold ix
    by_cases c : x = l
    · rw [if_pos c, c]; rfl
    · rw [if_neg c]
      rcases List.mem_cons.mp h with z | z
      · exact absurd z c
      · exact ix_at z
theorem ix_first : ∀ {ls : List Str} {x : Str} (m : Nat), m < ix ls x → ls[m]? ≠ some x
  | [], _, m, h => by simp [ix] at h
  | l :: ls, x, m, h => by
    unfold ix at h
    by_cases c : x = l
    · rw [if_pos c] at h
      omega
    · rw [if_neg c] at h
      cases m with
      | zero => exact fun z => c (Option.some.inj z).symm
      | succ m => exact ix_first m (by omega)
end LB
end
section
set_option autoImplicit false
set_option Elab.async false
set_option linter.all false
set_option maxRecDepth 100000
set_option maxHeartbeats 4000000
/-! Walks: values, their form. -/
namespace LB
open PySem PySem.Spec PyProof.Rows L2 LamX
section
variable {P : Program} {w : World} {K : PySem.W.Frag} {mg : Str → Option Value} {base : Heap} {T : List (Addr × Str)} {f : Addr} {fd : FuncData}
abbrev sNumber : Stmt := top 27
theorem sc_number : FnScope ["value", "most"] ["value", "most"] (defScope sNumber) := ⟨rfl, rfl, rfl, by decide +kernel, rfl, by decide +kernel, by decide +kernel⟩
def RNumber (ds : List PyData) (d : PyData) : Prop := ∃ n m : Int, ds = [.int n, .int m] ∧ 0 ≤ n ∧ n ≤ m ∧ d = .bool true
theorem w_number (F : Fun K "is_number" "is_number" sNumber f fd) (hm : mg "is_number" = some (.ref f)) (hb : Binds K fd ["value", "most"] []) (G : Gb w mg K) : Fd P w K mg base T 1 "is_number" RNumber := by
  refine Fd.mk (m := 0) F hm hb sc_number (fun ds d ⟨_, _, e, _⟩ => by rw [e]; rfl) fun cdv A outer s H E ds d hr ⟨n, m, e1, h1, h2, e2⟩ => ?_
  subst e1 e2
  have hfr := G.fr
  exact Dr.ret (De.andT (De.isi hfr (dv 0 (d := .int n)) (by decide) rfl kit_same) (De.andT (De.not (k := false) (De.isi hfr (dv 0 (d := .int n)) (by decide) rfl kit_ib)) (De.one (De.chain De.int (dv 0 (d := .int n)) (dv 1 (d := .int m)) h1 h2))))
abbrev sPair : Stmt := top 28
theorem sc_pair : FnScope ["value"] ["value"] (defScope sPair) := ⟨rfl, rfl, rfl, by decide +kernel, rfl, by decide +kernel, by decide +kernel⟩
def RPair (ds : List PyData) (d : PyData) : Prop := ∃ x y, ds = [.tuple [x, y]] ∧ d = .bool true
theorem w_pair (F : Fun K "is_pair" "is_pair" sPair f fd) (hm : mg "is_pair" = some (.ref f)) (hb : Binds K fd ["value"] []) (G : Gb w mg K) : Fd P w K mg base T 1 "is_pair" RPair := by
  refine Fd.mk (m := 0) F hm hb sc_pair (fun ds d ⟨_, _, e, _⟩ => by rw [e]; rfl) fun cdv A outer s H E ds d hr ⟨x, y, e1, e2⟩ => ?_
  subst e1 e2
  have hfr := G.fr
  exact Dr.ret (De.andT (De.isi hfr (dv 0 (d := .tuple [x, y])) (by decide) rfl kit_same) (De.one (De.cast (De.eqI (De.len hfr (dv 0 (d := .tuple [x, y]))) De.int) rfl)))
abbrev sSide : Stmt := top 29
theorem sc_side : FnScope ["value"] ["value"] (defScope sSide) := ⟨rfl, rfl, rfl, by decide +kernel, rfl, by decide +kernel, by decide +kernel⟩
def RSide (ds : List PyData) (d : PyData) : Prop := ∃ z x, ds = [.tuple [.str z, x]] ∧ z ∈ ([sL, sR] : List Str) ∧ d = .bool true
theorem w_side (F : Fun K "is_side" "is_side" sSide f fd) (hm : mg "is_side" = some (.ref f)) (hb : Binds K fd ["value"] []) (G : Gb w mg K) (FP : Fd P w K mg base T 1 "is_pair" RPair) : Fd P w K mg base T 2 "is_side" RSide := by
  refine Fd.mk (m := 0) F hm hb sc_side (fun ds d ⟨_, _, e, _⟩ => by rw [e]; rfl) fun cdv A outer s H E ds d hr ⟨z, x, e1, hz, e2⟩ => ?_
  subst e1 e2
  have hfr := G.fr
  exact Dr.ret (De.andT (De.call FP hr (Da.cons (dv 0 (d := .tuple [.str z, x])) Da.nil) ⟨_, _, rfl, rfl⟩) (De.andT (De.isi hfr (De.ixT (k := 0) (d := .str z) (dv 0 (d := .tuple [.str z, x])) De.int rfl) (by decide) rfl kit_same)
    (De.one (De.cast (De.inT (zs := [sL, sR]) (De.ixT (k := 0) (d := .str z) (dv 0 (d := .tuple [.str z, x])) De.int rfl) (De.glob (d := sidesD) G.sides)) (congrArg PyData.bool (inS_mem hz))))))

/-- SIDES.index(z) -/
theorem De.side {X : Cx} {δ : List (Option PyData)} {e : Expr} {p apos cpos : Pos} {k : Nat} (G : Gb X.w X.mg X.K) (hk : k < 2) (he : De X T δ e (.str (if k = 0 then sL else sR)))
    (hg : Gl X "SIDES" := by rfl) (hbase : attributeBase (.Name "SIDES" p) "index" X.env (eval (.Name "SIDES" p) X.env) = eval (.Name "SIDES" p) X.env := by rfl)
    (hfew : ((backTo cpos (starEach [e] X.env)).all (fun x => !x.1) && (backToKw cpos (keywordEach [] X.env)).all (fun x => x.1.isSome) && decide ([e].length + ([] : List Keyword).length + (if ([] : List Keyword).isEmpty then 0 else 1) < 30)) = true := by rfl)
    (hline : (apos.endLine == cpos.line) = true := by rfl) (hs : starEach [e] X.env = (false, eval e X.env) :: starEach [] X.env := by rfl) (hplain : (backTo cpos (starEach [] X.env)).any (·.1) = false := by rfl) :
    De X T δ (.Call (.Attribute (.Name "SIDES" p) "index" apos) [e] [] cpos) (.int (k : Nat)) := by
  refine De.indexT (ls := [sL, sR]) (z := if k = 0 then sL else sR) G.kt (De.glob (d := sidesD) G.sides hg) he ?_ ?_ hbase hfew hline hs hplain
  · match k, hk with
    | 0, _ => rfl
    | 1, _ => rfl
  · intro m hm
    match k, hk, m, hm with
    | 1, _, 0, _ => exact fun z => absurd (Option.some.inj z) (by decide +kernel)

abbrev sBad : Stmt := top 30
theorem sc_bad : FnScope ["sort", "data", "kind", "place", "one"] ["sort", "data"] (defScope sBad) := ⟨rfl, rfl, rfl, by decide +kernel, rfl, by decide +kernel, by decide +kernel⟩
def RBad (n : Nat) (ds : List PyData) (d : PyData) : Prop := ∃ (s : S) (v : PyData), ds = [s.enc, v] ∧ LB.T s v ∧ dep s ≤ n ∧ d = .none
abbrev sAmong : Stmt := top 31
theorem sc_among : FnScope ["rows", "place", "sort", "data", "found"] ["rows"] (defScope sAmong) := ⟨rfl, rfl, rfl, by decide +kernel, rfl, by decide +kernel, by decide +kernel⟩
def RAmong (n : Nat) (ds : List PyData) (d : PyData) : Prop := ∃ rows, ds = [.list rows] ∧ (∀ r ∈ rows, ∃ (k : Int) (s : S) (v : PyData), r = .tuple [.int k, s.enc, v] ∧ LB.T s v ∧ dep s ≤ n) ∧ d = .none
theorem w_among {n k : Nat} (F : Fun K "bad_among" "bad_among" sAmong f fd) (hm : mg "bad_among" = some (.ref f)) (hb : Binds K fd ["rows"] []) (FB : Fd P w K mg base T k "bad_place" (RBad n)) : Fd P w K mg base T (k + 1) "bad_among" (RAmong n) := by
  refine Fd.mk (m := 4) F hm hb sc_among (fun ds d ⟨_, e, _⟩ => by rw [e]; rfl) fun cdv A outer s H E ds d hr ⟨rows, e1, h, e2⟩ => ?_
  subst e1 e2
  refine Dr.next (Dn1.forL3 (i := 1) (j := 2) (k := 3) PassesOwn.never rfl (dv 0 (d := .list rows)) (fun d hd => ?_) rfl rfl rfl
    (pg_tup rfl (pgs_cons (pg_name sc_among.nd rfl (Or.inl rfl)) (pgs_cons (pg_name sc_among.nd rfl (Or.inl rfl)) (pgs_cons (pg_name sc_among.nd rfl (Or.inl rfl)) pgs_nil))))) (Dr.ret De.non)
  obtain ⟨k0, s0, v0, rfl, ht, hdp⟩ := h d hd
  refine ⟨_, _, _, rfl, _, Dn.cons (Dn1.set (i := 4) sc_among.nd (De.call FB hr (Da.cons (dv 2 (d := s0.enc)) (Da.cons (dv 3 (d := v0)) Da.nil)) ⟨s0, v0, rfl, ht, hdp, rfl⟩)) (Dn.cons (Dn1.ifF (Dt.notN (dv 4 (d := .none)))) Dn.nil), ?_⟩
  exact Sub.tl (Sub.no (Sub.no (Sub.no (Sub.no Sub.ni))))
theorem w_bad {fA : Addr} {fdA : FuncData} (F : Fun K "bad_place" "bad_place" sBad f fd) (hm : mg "bad_place" = some (.ref f)) (hb : Binds K fd ["sort", "data"] []) (FA : Fun K "bad_among" "bad_among" sAmong fA fdA) (hmA : mg "bad_among" = some (.ref fA)) (hbA : Binds K fdA ["rows"] []) (G : Gb w mg K)
    (FN : Fd P w K mg base T 1 "is_number" RNumber) (FP : Fd P w K mg base T 1 "is_pair" RPair) (FS : Fd P w K mg base T 2 "is_side" RSide) : ∀ n, Fd P w K mg base T (2 * n + 3) "bad_place" (RBad n)
  | 0 => Fd.void F hm hb sc_bad fun ds d ⟨s, _, _, _, h, _⟩ => by have := dep_pos s; omega
  | n + 1 => by
    have IH := w_bad F hm hb FA hmA hbA G FN FP FS n
    have IA := w_among FA hmA hbA IH
    show Fd P w K mg base T ((2 * n + 4) + 1) _ _
    refine Fd.mk (m := 3) F hm hb sc_bad (fun ds d ⟨_, _, e, _⟩ => by rw [e]; rfl) fun cdv A outer s H E ds d hr ⟨s, v, e1, ht, hn, e2⟩ => ?_
    subst e1 e2
    have hfr := G.fr
    refine Dr.next (Dn1.set (i := 2) sc_bad.nd (De.kind (s := s) (dv 0))) ?_
    have row : ∀ (a : S) (xs : List PyData), xs.length ≤ 3 → (∀ x ∈ xs, LB.T a x) → dep a ≤ n → ∀ (k : Str) (s0 : S), s0.enc = .tuple [.str k, a.enc] → ∀ (sh : Shared) (cdv : Value) (H : Hp) (E : XK), Room (2 * n + 4) (A.deeper (envOfC "bad_place" (defScope sBad) sh.heap.objs.size f cdv)) →
        Dr (cxOf CX0 P w K mg base ["sort", "data", "kind", "place", "one"] "bad_place" (defScope sBad) f cdv A outer sh H E).nox T [some s0.enc, some (.tuple xs), some (.str k), none, none] ((defBody sBad).drop 5) .none := by
      intro a xs h3 hx hd k s0 es sh cdv H E hr
      refine Dr.ifF (Dt.w (Dw.orF (Dt.not (b := true) (Dt.val (De.isiLT (p4 := ⟨0, 0, 0, 0⟩) hfr (dv 1 (d := .tuple xs)) kit_tl))) (Dw.or1 (Dt.cast (Dt.gtI (De.len hfr (dv 1 (d := .tuple xs))) (De.glob G.mElem)) (decide_eq_false (by omega)))))) ?_
      refine Dr.ret (De.call IA hr (Da.cons (De.lcm (es := xs.mapIdx fun k x => .tuple [.int (k : Nat), a.enc, x]) rfl sc_bad.nd (src_et (i := 3) (j := 4) hfr (dv 1 (d := .tuple xs)) (fun _ _ _ _ _ => pg_tup rfl (pgs_cons (pg_name sc_bad.nd rfl (Or.inl rfl)) (pgs_cons (pg_name sc_bad.nd rfl (Or.inl rfl)) pgs_nil)))) ?_ ?_ (fun j b e hb he s2 H2 C cl fp => ?_)
        (blkOk_by (N := ["sort", "data", "kind", "place", "one"]) (sc := defScope sBad) (own := [("place", 3), ("one", 4)]) (by decide +kernel))) Da.nil) ⟨_, rfl, fun r hr => ?_, rfl⟩)
      · rw [enums_len, List.length_mapIdx]
      · rw [enums_len]
        omega
      · obtain ⟨d, hd, rfl⟩ := enums_at hb
        rw [List.getElem?_mapIdx, hd] at he
        cases he
        exact De.tup (Da.cons (dv 3 (d := .int (j : Nat))) (Da.cons (De.ixT (k := 1) (d := a.enc) (De.cast (dv 0 (d := s0.enc)) es) De.int rfl) (Da.cons (dv 4 (d := d)) Da.nil)))
      · obtain ⟨j, hj, e⟩ := List.mem_iff_getElem.mp hr
        rw [List.getElem_mapIdx] at e
        exact ⟨_, a, _, e.symm, hx _ (List.getElem_mem _), hd⟩
    cases s with
    | mark ls =>
      obtain ⟨x, hx, rfl⟩ := ht
      exact Dr.ifT (Dt.isS (x := kMark) (dv 2)) (Dr.ret (De.ifT (Dt.w (Dw.andT (Dt.val (De.isi hfr (dv 1 (d := .str x)) (by decide) rfl kit_same)) (Dw.and1 (Dt.cast (Dt.inT (zs := ls) (dv 1 (d := .str x)) (De.ixT (k := 1) (d := .tuple (ls.map .str)) (De.enc (s := .mark ls) (dv 0)) De.int rfl)) (inS_mem hx))))) De.non))
    | count =>
      obtain ⟨m, hm3, rfl⟩ := ht
      exact Dr.ifF (Dt.isS (x := kCount) (dv 2)) (Dr.ifT (Dt.isS (x := kCount) (dv 2)) (Dr.ret (De.ifT (Dt.val (De.call (FN.mono (by omega)) hr (Da.cons (dv 1 (d := .int (m : Nat))) (Da.cons (De.glob G.mNumber) Da.nil)) ⟨_, _, rfl, by omega, by omega, rfl⟩)) De.non)))
    | both a b =>
      obtain ⟨x, y, rfl, hx, hy⟩ := ht
      have da := parts_dep (s := .both a b) (p := a) (by simp [partsS])
      have db := parts_dep (s := .both a b) (p := b) (by simp [partsS])
      refine Dr.ifF (Dt.isS (x := kBoth) (dv 2)) (Dr.ifF (Dt.isS (x := kBoth) (dv 2)) (Dr.ifT (Dt.isS (x := kBoth) (dv 2)) (Dr.ret (De.ifT (Dt.val (De.call (FP.mono (by omega)) hr (Da.cons (dv 1 (d := .tuple [x, y])) Da.nil) ⟨_, _, rfl, rfl⟩))
        (De.call IA hr (Da.cons (De.lst (Da.cons (De.tup (Da.cons De.int (Da.cons (De.ixT (k := 1) (d := a.enc) (De.enc (s := .both a b) (dv 0)) De.int rfl) (Da.cons (De.ixT (k := 0) (d := x) (dv 1 (d := .tuple [x, y])) De.int rfl) Da.nil))))
          (Da.cons (De.tup (Da.cons De.int (Da.cons (De.ixT (k := 2) (d := b.enc) (De.enc (s := .both a b) (dv 0)) De.int rfl) (Da.cons (De.ixT (k := 1) (d := y) (dv 1 (d := .tuple [x, y])) De.int rfl) Da.nil)))) Da.nil))) Da.nil) ⟨_, rfl, fun r hr => ?_, rfl⟩)))))
      simp only [List.mem_cons, List.not_mem_nil, or_false] at hr
      rcases hr with rfl | rfl
      · exact ⟨0, a, x, rfl, hx, by omega⟩
      · exact ⟨1, b, y, rfl, hy, by omega⟩
    | either a b =>
      have da := parts_dep (s := .either a b) (p := a) (by simp [partsS])
      have db := parts_dep (s := .either a b) (p := b) (by simp [partsS])
      rcases ht with ⟨x, rfl, hx⟩ | ⟨x, rfl, hx⟩
      · refine Dr.ifF (Dt.isS (x := kEither) (dv 2)) (Dr.ifF (Dt.isS (x := kEither) (dv 2)) (Dr.ifF (Dt.isS (x := kEither) (dv 2)) (Dr.ifT (Dt.isS (x := kEither) (dv 2)) (Dr.ret (De.ifT (Dt.val (De.call (FS.mono (by omega)) hr (Da.cons (dv 1 (d := .tuple [.str sL, x])) Da.nil) ⟨_, _, rfl, by simp, rfl⟩))
          (De.call IA hr (Da.cons (De.lst (Da.cons (De.tup (Da.cons De.int (Da.cons (De.ixT (k := 1) (d := a.enc) (De.enc (s := .either a b) (dv 0)) (De.cast (De.add De.int (De.side (k := 0) G (by decide) (De.ixT (k := 0) (d := .str sL) (dv 1 (d := .tuple [.str sL, x])) De.int rfl))) rfl) rfl) (Da.cons (De.ixT (k := 1) (d := x) (dv 1 (d := .tuple [.str sL, x])) De.int rfl) Da.nil)))) Da.nil)) Da.nil) ⟨_, rfl, fun r hr => ?_, rfl⟩))))))
        rw [List.mem_singleton.mp hr]
        exact ⟨1, a, x, rfl, hx, by omega⟩
      · refine Dr.ifF (Dt.isS (x := kEither) (dv 2)) (Dr.ifF (Dt.isS (x := kEither) (dv 2)) (Dr.ifF (Dt.isS (x := kEither) (dv 2)) (Dr.ifT (Dt.isS (x := kEither) (dv 2)) (Dr.ret (De.ifT (Dt.val (De.call (FS.mono (by omega)) hr (Da.cons (dv 1 (d := .tuple [.str sR, x])) Da.nil) ⟨_, _, rfl, by simp, rfl⟩))
          (De.call IA hr (Da.cons (De.lst (Da.cons (De.tup (Da.cons De.int (Da.cons (De.ixT (k := 2) (d := b.enc) (De.enc (s := .either a b) (dv 0)) (De.cast (De.add De.int (De.side (k := 1) G (by decide) (De.ixT (k := 0) (d := .str sR) (dv 1 (d := .tuple [.str sR, x])) De.int rfl))) rfl) rfl) (Da.cons (De.ixT (k := 1) (d := x) (dv 1 (d := .tuple [.str sR, x])) De.int rfl) Da.nil)))) Da.nil)) Da.nil) ⟨_, rfl, fun r hr => ?_, rfl⟩))))))
        rw [List.mem_singleton.mp hr]
        exact ⟨1, b, x, rfl, hx, by omega⟩
    | lane a =>
      obtain ⟨xs, rfl, h3, hx⟩ := ht
      have da := parts_dep (s := .lane a) (p := a) (by simp [partsS])
      exact Dr.ifF (Dt.isS (x := kLane) (dv 2)) (Dr.ifF (Dt.isS (x := kLane) (dv 2)) (Dr.ifF (Dt.isS (x := kLane) (dv 2)) (Dr.ifF (Dt.isS (x := kLane) (dv 2)) (row a xs h3 hx (by omega) kLane (.lane a) rfl _ _ _ _ hr))))
    | heap a =>
      obtain ⟨xs, rfl, h3, hx, _⟩ := ht
      have da := parts_dep (s := .heap a) (p := a) (by simp [partsS])
      exact Dr.ifF (Dt.isS (x := kHeap) (dv 2)) (Dr.ifF (Dt.isS (x := kHeap) (dv 2)) (Dr.ifF (Dt.isS (x := kHeap) (dv 2)) (Dr.ifF (Dt.isS (x := kHeap) (dv 2)) (row a xs h3 hx (by omega) kHeap (.heap a) rfl _ _ _ _ hr))))
end
end LB
end
section
set_option autoImplicit false
set_option Elab.async false
set_option linter.all false
set_option maxRecDepth 100000
set_option maxHeartbeats 4000000
/-! Defs that make a lambda; sorted(.., key=lambda ..). -/
namespace LB
open PySem PySem.Spec PySem.W PyProof.Rows L2 LamX

/-- the def's object, its code object at c -/
structure FunC (K : PySem.W.Frag) (x : Str) (st : Stmt) (f : Addr) (fd : FuncData) (c : Addr) : Prop where
  ex : ∃ (oc : Value) (od : Option Addr) (kV doc pm : Value) (an : Option Addr) (ct : Value) (osl : Array (Option Value)),
    fd = PySem.W.fnOf x x (defArgs st) (defBody st) (defScope st) .none kV doc pm an (.ref c) ct ∧ K.lookup f = some ⟨oc, od, .func fd, osl⟩ ∧ PySem.W.codeIn K (.ref c) x = true
  kp : PySem.W.keepIn K (.ref f) = true
def lamN (x : Str) : Str := x ++ ".<locals>." ++ "<lambda>"
/-- the def x makes lambdas: its code object at c, its table at p -/
structure LamAt (base : Heap) (mg : Str → Option Value) (T : List (Addr × Str)) (x : Str) (c p : Addr) : Prop where
  tab : TabB base mg c p
  mem : (p, lamN x) ∈ T
  one : ∀ q ∈ T, q.1 = p → q.2 = lamN x
section
variable {P : Program} {w : World} {K : PySem.W.Frag} {mg : Str → Option Value} {base : Heap} {T : List (Addr × Str)}
theorem Fd.mkC {k m : Nat} {x : Str} {st : Stmt} {f c : Addr} {fd : FuncData} {N ps : List Str} {R : List PyData → PyData → Prop} (F : FunC K x st f fd c) (hm : mg x = some (.ref f)) (hb : Binds K fd ps [])
    (S : FnScope N ps (defScope st)) (len : ∀ ds d, R ds d → ds.length = ps.length)
    (body : ∀ (A : Around) (outer : List Env) (s : Shared) (H : Hp) (E : XK) (ds : List PyData) (d : PyData), Room k (A.deeper (envOfC x (defScope st) s.heap.objs.size f (.ref c))) → R ds d →
      Dr (cxOf CX0 P w K mg base N x (defScope st) f (.ref c) A outer s H E).nox T (ds.map some ++ List.replicate m none) (defBody st) d) : Fd P w K mg base T (k + 1) x R := by
  refine ⟨f, fd, ps, hm, F.kp, hb, ?_⟩
  obtain ⟨oc, od, kV, doc, pm, an, ct, osl, rfl, lk, hcd⟩ := F.ex
  refine fn_of lk hcd S (fun vs H Q E ⟨ds, d, dv, _, r, _⟩ => by rw [dpAll_len dv]; exact len ds d r) fun A outer s H vs Q E hr ⟨ds, d, dv, t, r, q⟩ => ?_
  have hl : vs.length ≤ N.length := by
    rw [dpAll_len dv, len ds d r]
    have := congrArg List.length S.pre
    rw [List.length_take] at this
    omega
  exact ⟨_, (pss_ev (X := (cxOf CX0 P w K mg base N x (defScope st) f (.ref c) A outer s H E).nox)).nox, body A outer s H E ds d hr r _ _ _ (start_len hl) (start_ds dv m) t q⟩
end
section
variable {X : Cx} {T : List (Addr × Str)} {δ : List (Option PyData)} {e : Expr} {ds res : List PyData} {cd : PyData}
theorem De.sortL {c Pp : Addr} {k j : Nat} {kf : PyData → PyData} {params : Arguments} {body : Expr} {scope : Scope} {x p cn : Str} {lpos kpos pos sp : Pos} (fr : Free X.mg) (LA : LamAt X.base X.mg T x c Pp) (he : De X T δ e (.list ds) ∨ De X T δ e (.tuple ds)) (few : ds.length ≤ 1000) (ok : Ord (ds.map kf))
    (hr : Room (k + 3) X.A) (L : LamP X.env.scope scope p cn) (hcd : δ[j]? = some (some cd))
    (hbody : ∀ d ∈ ds, ∀ (s : Shared) (H : Hp) (f c' : Addr), Room k (X.A.in1.in1.deeper (lamEnv X scope s.heap.objs.size f c')) → De (lamC X X.A.in1.in1 s H scope f c' [p, cn]) T [some d, some cd] body (kf d))
    (uniq : ∀ ds', ds'.Perm ds → ds'.Pairwise (fun x y => dataLt (kf y) (kf x) = false) → ds' = res)
    (hj : X.N[j]? = some cn := by rfl) (hdef : defaultsOf params X.env = ([], []) := by rfl) (hbind : ∀ (q : Str) (cl : List (Str × Addr)) (pm cv ctv u : Value), bindArgs (PySem.W.kla_fn "<lambda>" q params body scope cl pm cv ctv) ⟨[u], []⟩ = pure [(p, u)] := by intros; rfl)
    (hcode : X.env.code = .ref c := by rfl) (hq : X.env.qual ++ "<lambda>" = lamN x := by rfl) (hg : Gl X "sorted" := by rfl) (h1 : starEach [e] X.env = (false, eval e X.env) :: starEach [] X.env := by rfl) (hpl : (backTo pos (starEach [e] X.env)).any (·.1) = false := by rfl) :
    De X T δ (.Call (.Name "sorted" sp) [e] [⟨some "key", .Lambda params body scope lpos, kpos⟩] pos) (.list res) := by
  have rule := pe_sortL (X := X) (T := T) (te := evT X e) (tb := fun σ H Q => ∀ (s : Shared) (H0 : Hp) (f c' : Addr), Room k (X.A.in1.in1.deeper (lamEnv X scope s.heap.objs.size f c')) → evT (lamC X X.A.in1.in1 s H0 scope f c' [p, cn]) body σ H Q) (pos := pos) (sp := sp) (lpos := lpos) (kpos := kpos) pe_ev hg (fr _ (by decide)) LA.tab hcode
    (by rw [hq]; exact LA.mem) (by rw [hq]; exact LA.one) hr L hdef hj hbind (fun s H f c' rk => ⟨fun pins s1 σ H1 Q I h => h s H f c' rk pins s1 I⟩) h1 hpl
  refine De.of rule fun σ H Q hl hd t q => ?_
  have main : ∀ v H1, Gw T H H1 → (Dp X.K H1 v (.list ds) ∨ Dp X.K H1 v (.tuple ds)) → ∃ (a : Addr) (xs : List V) (ds : List PyData) (kf : PyData → PyData) (wv : V), v = .ref a ∧ (SqL X.K H1 a xs ∨ SqT X.K H1 a xs) ∧ DpAll X.K H1 xs ds ∧ ds.length ≤ 1000 ∧ Ord (ds.map kf) ∧ Tabs T H1 ∧
      σ[j]? = some (some wv) ∧ (∀ (v : V) (d : PyData) (H2 : Hp) (Q2 : VK), Gw T H1 H2 → d ∈ ds → Dp X.K H2 v d → (∀ kv H3, Gw T H2 H3 → Dp X.K H3 kv (kf d) → Q2 kv H3) → ∀ (s : Shared) (H0 : Hp) (f c' : Addr), Room k (X.A.in1.in1.deeper (lamEnv X scope s.heap.objs.size f c')) → evT (lamC X X.A.in1.in1 s H0 scope f c' [p, cn]) body [some v, some wv] H2 Q2) ∧
      ∀ (p : Addr) (vs' : List V) (ds' : List PyData) (H2 : Hp), Gw T H1 H2 → H2 p = none → DpAll X.K H2 vs' ds' → ds'.Perm ds → ds'.Pairwise (fun x y => dataLt (kf y) (kf x) = false) → Q (.ref p) (upd H2 p (.lst vs')) := by
    intro v H1 g1 hv
    obtain ⟨wv, hwv, dwv⟩ := hd j cd hcd
    have go : ∀ (a : Addr) (xs : List V), v = .ref a → (SqL X.K H1 a xs ∨ SqT X.K H1 a xs) → DpAll X.K H1 xs ds → _ := fun a xs ea hs hx => (⟨a, xs, ds, kf, wv, ea, hs, hx, few, ok, g1.2, hwv, fun v d H2 Q2 g2 hdm dd q2 s H0 f c' rk => by
      refine (hbody d hdm s H0 f c' rk).go (by rfl) (fun i d0 hi => ?_) g2.2 q2
      match i, hi with
      | 0, hi =>
        cases Option.some.inj (Option.some.inj hi)
        exact ⟨v, rfl, dd⟩
      | 1, hi =>
        cases Option.some.inj (Option.some.inj hi)
        exact ⟨wv, rfl, Dp.gw (g1.trans g2) _ _ dwv⟩, fun p vs' ds' H2 g2 hp dv' pm pw => by
      have e := uniq ds' pm pw
      subst e
      have z := lay_lst hp dv' g2.2
      exact q _ _ ((g1.trans g2).trans z.1) z.2⟩ : ∃ (a : Addr) (xs : List V) (ds : List PyData) (kf : PyData → PyData) (wv : V), v = .ref a ∧ (SqL X.K H1 a xs ∨ SqT X.K H1 a xs) ∧ DpAll X.K H1 xs ds ∧ ds.length ≤ 1000 ∧ Ord (ds.map kf) ∧ Tabs T H1 ∧
      σ[j]? = some (some wv) ∧ (∀ (v : V) (d : PyData) (H2 : Hp) (Q2 : VK), Gw T H1 H2 → d ∈ ds → Dp X.K H2 v d → (∀ kv H3, Gw T H2 H3 → Dp X.K H3 kv (kf d) → Q2 kv H3) → ∀ (s : Shared) (H0 : Hp) (f c' : Addr), Room k (X.A.in1.in1.deeper (lamEnv X scope s.heap.objs.size f c')) → evT (lamC X X.A.in1.in1 s H0 scope f c' [p, cn]) body [some v, some wv] H2 Q2) ∧
      ∀ (p : Addr) (vs' : List V) (ds' : List PyData) (H2 : Hp), Gw T H1 H2 → H2 p = none → DpAll X.K H2 vs' ds' → ds'.Perm ds → ds'.Pairwise (fun x y => dataLt (kf y) (kf x) = false) → Q (.ref p) (upd H2 p (.lst vs')))
    rcases hv with hv | hv
    · cases hv with
      | lst hs hx => exact go _ _ rfl (.inl hs) hx
    · cases hv with
      | tup hs hx => exact go _ _ rfl (.inr hs) hx
  rcases he with he | he
  · exact he.go hl hd t fun v H1 g1 d1 => main v H1 g1 (.inl d1)
  · exact he.go hl hd t fun v H1 g1 d1 => main v H1 g1 (.inr d1)
end
end LB
end
section
set_option autoImplicit false
set_option Elab.async false
set_option linter.all false
set_option maxRecDepth 100000
set_option maxHeartbeats 4000000
/-! Walks: keys, sorted_values. -/
namespace LB
open PySem PySem.Spec PySem.W PyProof.Rows L2 LamX
section
variable {P : Program} {w : World} {K : PySem.W.Frag} {mg : Str → Option Value} {base : Heap} {T : List (Addr × Str)} {f : Addr} {fd : FuncData}
theorem d_b1 {a b : S} : dep a < dep (.both a b) := by simp only [dep]; omega
theorem d_b2 {a b : S} : dep b < dep (.both a b) := by simp only [dep]; omega
theorem d_e1 {a b : S} : dep a < dep (.either a b) := by simp only [dep]; omega
theorem d_e2 {a b : S} : dep b < dep (.either a b) := by simp only [dep]; omega
theorem d_l {a : S} : dep a < dep (.lane a) := by simp only [dep]; omega
theorem d_h {a : S} : dep a < dep (.heap a) := by simp only [dep]; omega
abbrev sKey : Stmt := top 32
theorem sc_key : FnScope ["sort", "value", "kind", "side", "one"] ["sort", "value"] (defScope sKey) := ⟨rfl, rfl, rfl, by decide +kernel, rfl, by decide +kernel, by decide +kernel⟩
def RKey (n : Nat) (ds : List PyData) (d : PyData) : Prop := ∃ (s : S) (v : PyData), ds = [s.enc, v] ∧ LB.T s v ∧ dep s ≤ n ∧ d = keyV s v
theorem w_key (F : Fun K "value_key" "value_key" sKey f fd) (hm : mg "value_key" = some (.ref f)) (hb : Binds K fd ["sort", "value"] []) (G : Gb w mg K) : ∀ n, Fd P w K mg base T (n + 1) "value_key" (RKey n)
  | 0 => Fd.void F hm hb sc_key fun ds d ⟨s, _, _, _, h, _⟩ => by have := dep_pos s; omega
  | n + 1 => by
    have IH := w_key F hm hb G n
    refine Fd.mk (m := 3) F hm hb sc_key (fun ds d ⟨_, _, e, _⟩ => by rw [e]; rfl) fun cdv A outer s H E ds d hr ⟨s, v, e1, ht, hn, e2⟩ => ?_
    subst e1 e2
    have hfr := G.fr
    refine Dr.next (Dn1.set (i := 2) sc_key.nd (De.kind (s := s) (dv 0))) ?_
    have row : ∀ (a : S) (xs : List PyData), xs.length ≤ 3 → (∀ x ∈ xs, LB.T a x) → dep a ≤ n → ∀ (k : Str) (s0 : S), s0.enc = .tuple [.str k, a.enc] → ∀ (sh : Shared) (cdv : Value) (H : Hp) (E : XK), Room (n + 1) (A.deeper (envOfC "value_key" (defScope sKey) sh.heap.objs.size f cdv)) →
        Dr (cxOf CX0 P w K mg base ["sort", "value", "kind", "side", "one"] "value_key" (defScope sKey) f cdv A outer sh H E).nox T [some s0.enc, some (.tuple xs), some (.str k), none, none] ((defBody sKey).drop 5) (.tuple (xs.map (keyV a))) := by
      intro a xs h3 hx hd k s0 es sh cdv H E hr
      refine Dr.ret (De.tupleOf hfr (De.lcm (es := xs.map (keyV a)) rfl sc_key.nd (src_t (i := 4) (dv 1 (d := .tuple xs)) (fun _ _ _ _ _ => pg_name sc_key.nd rfl (Or.inl rfl))) ?_ ?_ (fun j b e hb he s2 H2 C cl fp => ?_)
        (blkOk_by (N := ["sort", "value", "kind", "side", "one"]) (sc := defScope sKey) (own := [("one", 4)]) (by decide +kernel))))
      · rw [ones_len, List.length_map]
      · rw [ones_len]
        omega
      · obtain ⟨d, hd2, rfl⟩ := ones_at hb
        rw [List.getElem?_map, hd2] at he
        cases he
        exact De.call IH (hr.mono (by omega)) (Da.cons (De.ixT (k := 1) (d := a.enc) (De.cast (dv 0 (d := s0.enc)) es) De.int rfl) (Da.cons (dv 4 (d := d)) Da.nil)) ⟨a, d, rfl, hx d (List.mem_of_getElem? hd2), hd, rfl⟩
    cases s with
    | mark ls =>
      obtain ⟨x, hx, rfl⟩ := ht
      exact Dr.ifT (Dt.isS (x := kMark) (dv 2)) (Dr.ret (De.tup (Da.cons (De.indexT (ls := ls) (z := x) (j := ix ls x) G.kt (De.ixT (k := 1) (d := .tuple (ls.map .str)) (De.enc (s := .mark ls) (dv 0)) De.int rfl) (dv 1 (d := .str x)) (ix_at hx) fun m hm => ix_first m hm) Da.nil)))
    | count =>
      obtain ⟨m, hm3, rfl⟩ := ht
      exact Dr.ifF (Dt.isS (x := kCount) (dv 2)) (Dr.ifT (Dt.isS (x := kCount) (dv 2)) (Dr.ret (De.tup (Da.cons (dv 1 (d := .int (m : Nat))) Da.nil))))
    | both a b =>
      obtain ⟨x, y, rfl, hx, hy⟩ := ht
      have da := d_b1 (a := a) (b := b)
      have db := d_b2 (a := a) (b := b)
      exact Dr.ifF (Dt.isS (x := kBoth) (dv 2)) (Dr.ifF (Dt.isS (x := kBoth) (dv 2)) (Dr.ifT (Dt.isS (x := kBoth) (dv 2)) (Dr.ret (De.tup
        (Da.cons (De.call IH (hr.mono (by omega)) (Da.cons (De.ixT (k := 1) (d := a.enc) (De.enc (s := .both a b) (dv 0)) De.int rfl) (Da.cons (De.ixT (k := 0) (d := x) (dv 1 (d := .tuple [x, y])) De.int rfl) Da.nil)) ⟨a, x, rfl, hx, by omega, rfl⟩)
        (Da.cons (De.call IH (hr.mono (by omega)) (Da.cons (De.ixT (k := 2) (d := b.enc) (De.enc (s := .both a b) (dv 0)) De.int rfl) (Da.cons (De.ixT (k := 1) (d := y) (dv 1 (d := .tuple [x, y])) De.int rfl) Da.nil)) ⟨b, y, rfl, hy, by omega, rfl⟩) Da.nil))))))
    | either a b =>
      have da := d_e1 (a := a) (b := b)
      have db := d_e2 (a := a) (b := b)
      rcases ht with ⟨x, rfl, hx⟩ | ⟨x, rfl, hx⟩
      · refine Dr.ifF (Dt.isS (x := kEither) (dv 2)) (Dr.ifF (Dt.isS (x := kEither) (dv 2)) (Dr.ifF (Dt.isS (x := kEither) (dv 2)) (Dr.ifT (Dt.isS (x := kEither) (dv 2)) (Dr.next (Dn1.set (i := 3) sc_key.nd (De.side (k := 0) G (by decide) (De.ixT (k := 0) (d := .str sL) (dv 1 (d := .tuple [.str sL, x])) De.int rfl)))
          (Dr.ret (De.cast (De.tup (Da.cons (dv 3 (d := .int ((0 : Nat) : Int))) (Da.cons (De.call IH (hr.mono (by omega)) (Da.cons (De.ixT (k := 1) (d := a.enc) (De.enc (s := .either a b) (dv 0)) (De.cast (De.add De.int (dv 3 (d := .int ((0 : Nat) : Int)))) rfl) rfl) (Da.cons (De.ixT (k := 1) (d := x) (dv 1 (d := .tuple [.str sL, x])) De.int rfl) Da.nil)) ⟨a, x, rfl, hx, by omega, rfl⟩) Da.nil))) ?_))))))
        simp only [keyV, if_pos True.intro]
        rfl
      · refine Dr.ifF (Dt.isS (x := kEither) (dv 2)) (Dr.ifF (Dt.isS (x := kEither) (dv 2)) (Dr.ifF (Dt.isS (x := kEither) (dv 2)) (Dr.ifT (Dt.isS (x := kEither) (dv 2)) (Dr.next (Dn1.set (i := 3) sc_key.nd (De.side (k := 1) G (by decide) (De.ixT (k := 0) (d := .str sR) (dv 1 (d := .tuple [.str sR, x])) De.int rfl)))
          (Dr.ret (De.cast (De.tup (Da.cons (dv 3 (d := .int ((1 : Nat) : Int))) (Da.cons (De.call IH (hr.mono (by omega)) (Da.cons (De.ixT (k := 2) (d := b.enc) (De.enc (s := .either a b) (dv 0)) (De.cast (De.add De.int (dv 3 (d := .int ((1 : Nat) : Int)))) rfl) rfl) (Da.cons (De.ixT (k := 1) (d := x) (dv 1 (d := .tuple [.str sR, x])) De.int rfl) Da.nil)) ⟨b, x, rfl, hx, by omega, rfl⟩) Da.nil))) ?_))))))
        simp only [keyV, if_neg nRL]
        rfl
    | lane a =>
      obtain ⟨xs, rfl, h3, hx⟩ := ht
      have da := d_l (a := a)
      exact Dr.ifF (Dt.isS (x := kLane) (dv 2)) (Dr.ifF (Dt.isS (x := kLane) (dv 2)) (Dr.ifF (Dt.isS (x := kLane) (dv 2)) (Dr.ifF (Dt.isS (x := kLane) (dv 2)) (row a xs h3 hx (by omega) kLane (.lane a) rfl _ _ _ _ hr))))
    | heap a =>
      obtain ⟨xs, rfl, h3, hx, _⟩ := ht
      have da := d_h (a := a)
      exact Dr.ifF (Dt.isS (x := kHeap) (dv 2)) (Dr.ifF (Dt.isS (x := kHeap) (dv 2)) (Dr.ifF (Dt.isS (x := kHeap) (dv 2)) (Dr.ifF (Dt.isS (x := kHeap) (dv 2)) (row a xs h3 hx (by omega) kHeap (.heap a) rfl _ _ _ _ hr))))

abbrev sSorted : Stmt := top 33
theorem sc_sorted : FnScope ["sort", "values"] ["sort", "values"] (defScope sSorted) := ⟨rfl, rfl, rfl, by decide +kernel, rfl, by decide +kernel, by decide +kernel⟩
def RSorted (ds : List PyData) (d : PyData) : Prop := ∃ (s : S) (vs : List PyData), (ds = [s.enc, .list vs] ∨ ds = [s.enc, .tuple vs]) ∧ (∀ v ∈ vs, LB.T s v) ∧ dep s ≤ 5 ∧ vs.length ≤ 1000 ∧ vs.Pairwise (Le s) ∧ d = .list vs
theorem w_sorted {c Pp : Addr} (F : FunC K "sorted_values" sSorted f fd c) (hm : mg "sorted_values" = some (.ref f)) (hb : Binds K fd ["sort", "values"] []) (G : Gb w mg K) (LA : LamAt base mg T "sorted_values" c Pp) (FK : Fd P w K mg base T 6 "value_key" (RKey 5)) : Fd P w K mg base T 10 "sorted_values" RSorted := by
  refine Fd.mkC (m := 0) F hm hb sc_sorted (fun ds d ⟨_, _, e, _⟩ => by rcases e with e | e <;> rw [e] <;> rfl) fun A outer s H E ds d hr ⟨s, vs, e1, ht, h5, few, pw, e2⟩ => ?_
  subst e2
  have hfr := G.fr
  refine Dr.ret ?_
  rcases e1 with e1 | e1 <;> subst e1
  · refine De.sortL (k := 6) (j := 0) (p := "value") (cn := "sort") (kf := keyV s) (ds := vs) (cd := s.enc) hfr LA (.inl (dv 1 (d := .list vs))) few (keyV_ord h5 ht) hr (lamP_by (sc := defScope sSorted) (by decide +kernel)) rfl (fun d hd s2 H2 f2 c2 rk => ?_) fun ds' pm pw2 => sorted_eq pm (fun x hx => ht x (pm.mem_iff.mp hx)) pw2 pw
    exact De.call FK rk (Da.cons (dv 1 (d := s.enc)) (Da.cons (dv 0 (d := d)) Da.nil)) ⟨s, d, rfl, ht d hd, h5, rfl⟩
  · refine De.sortL (k := 6) (j := 0) (p := "value") (cn := "sort") (kf := keyV s) (ds := vs) (cd := s.enc) hfr LA (.inr (dv 1 (d := .tuple vs))) few (keyV_ord h5 ht) hr (lamP_by (sc := defScope sSorted) (by decide +kernel)) rfl (fun d hd s2 H2 f2 c2 rk => ?_) fun ds' pm pw2 => sorted_eq pm (fun x hx => ht x (pm.mem_iff.mp hx)) pw2 pw
    exact De.call FK rk (Da.cons (dv 1 (d := s.enc)) (Da.cons (dv 0 (d := d)) Da.nil)) ⟨s, d, rfl, ht d hd, h5, rfl⟩
end
end LB
end
section
set_option autoImplicit false
set_option Elab.async false
set_option linter.all false
set_option maxRecDepth 100000
set_option maxHeartbeats 4000000
/-! Walks: is_formed and what rests on it. -/
namespace LB
open PySem PySem.Spec PySem.W PyProof.Rows L2 LamX
theorem eqv_self {s : S} {xs : List PyData} (w : Wf s) (h : ∀ x ∈ xs, LB.T s x) : PyData.eqv (.list xs) (.list xs) = true := by
  have z := (plAll_iff xs).mpr fun x m => (T_ok s x w (h x m)).1
  exact (eqvAll_iff xs xs z z).mpr rfl
theorem list_shaped {s : S} {xs : List PyData} (w : Wf s) (h5 : dep s ≤ 5) (h : ∀ x ∈ xs, LB.T s x) : SeqAt.shaped (.list xs) = true := by
  have z := (plAll_iff xs).mpr fun x m => (T_ok s x w (h x m)).1
  refine Bool.and_eq_true_iff.mpr ⟨plAll_lay xs z, decide_eq_true ?_⟩
  show PyData.depthAll xs + 1 ≤ 64
  have := depthAll_le fun x m => (T_ok s x w (h x m)).2
  omega
section
variable {P : Program} {w : World} {K : PySem.W.Frag} {mg : Str → Option Value} {base : Heap} {T : List (Addr × Str)} {f : Addr} {fd : FuncData}
abbrev sFormed : Stmt := top 34
theorem sc_formed : FnScope ["sort", "value", "kind", "one"] ["sort", "value"] (defScope sFormed) := ⟨rfl, rfl, rfl, by decide +kernel, rfl, by decide +kernel, by decide +kernel⟩
def RFormed (n : Nat) (ds : List PyData) (d : PyData) : Prop := ∃ (s : S) (v : PyData), ds = [s.enc, v] ∧ Wf s ∧ LB.T s v ∧ dep s ≤ 5 ∧ dep s ≤ n ∧ d = .bool true
theorem w_formed (F : Fun K "is_formed" "is_formed" sFormed f fd) (hm : mg "is_formed" = some (.ref f)) (hb : Binds K fd ["sort", "value"] []) (G : Gb w mg K) (FB : Fd P w K mg base T 13 "bad_place" (RBad 5)) (FP : Fd P w K mg base T 1 "is_pair" RPair) (FS : Fd P w K mg base T 2 "is_side" RSide)
    (FV : Fd P w K mg base T 10 "sorted_values" RSorted) : ∀ n, Fd P w K mg base T (n + 14) "is_formed" (RFormed n)
  | 0 => Fd.void F hm hb sc_formed fun ds d ⟨s, _, _, _, _, _, h, _⟩ => by have := dep_pos s; omega
  | n + 1 => by
    have IH := w_formed F hm hb G FB FP FS FV n
    show Fd P w K mg base T ((n + 14) + 1) _ _
    refine Fd.mk (m := 2) F hm hb sc_formed (fun ds d ⟨_, _, e, _⟩ => by rw [e]; rfl) fun cdv A outer s H E ds d hr ⟨s, v, e1, hw, ht, h5, hn, e2⟩ => ?_
    subst e1 e2
    have hfr := G.fr
    refine Dr.next (Dn1.set (i := 2) sc_formed.nd (De.kind (s := s) (dv 0))) ?_
    have row : ∀ (a : S) (xs : List PyData), Wf a → dep a ≤ 5 → xs.length ≤ 3 → (∀ x ∈ xs, LB.T a x) → dep a ≤ n → ∀ (k : Str) (s0 : S), s0.enc = .tuple [.str k, a.enc] → (k = kLane ∨ k = kHeap ∧ xs.Pairwise (Le a)) → ∀ (sh : Shared) (cdv : Value) (H : Hp) (E : XK), Room (n + 14) (A.deeper (envOfC "is_formed" (defScope sFormed) sh.heap.objs.size f cdv)) →
        Dr (cxOf CX0 P w K mg base ["sort", "value", "kind", "one"] "is_formed" (defScope sFormed) f cdv A outer sh H E).nox T [some s0.enc, some (.tuple xs), some (.str k), none] ((defBody sFormed).drop 4) (.bool true) := by
      intro a xs wa a5 h3 hx hd k s0 es hk sh cdv H E hr
      refine Dr.ifF (Dt.w (Dw.orF (Dt.not (b := true) (Dt.val (De.isi hfr (dv 1 (d := .tuple xs)) (by decide) rfl kit_same))) (Dw.or1 (Dt.cast (Dt.gtI (De.len hfr (dv 1 (d := .tuple xs))) (De.glob G.mElem)) (decide_eq_false (by omega)))))) ?_
      refine Dr.ifF (Dt.not (b := true) (Dt.val (De.allT (ds := xs.map fun _ => .bool true) hfr rfl (De.lcm rfl sc_formed.nd (src_t (i := 3) (dv 1 (d := .tuple xs)) (fun _ _ _ _ _ => pg_name sc_formed.nd rfl (Or.inl rfl))) ?_ ?_ (fun j b e hb he s2 H2 C cl fp => ?_)
        (blkOk_by (N := ["sort", "value", "kind", "one"]) (sc := defScope sFormed) (own := [("one", 3)]) (by decide +kernel))) fun d hd => ?_))) ?_
      · rw [ones_len, List.length_map]
      · rw [ones_len]
        omega
      · obtain ⟨d, hd2, rfl⟩ := ones_at hb
        rw [List.getElem?_map, hd2] at he
        cases he
        exact De.call IH (hr.mono (by omega)) (Da.cons (De.ixT (k := 1) (d := a.enc) (De.cast (dv 0 (d := s0.enc)) es) De.int rfl) (Da.cons (dv 3 (d := d)) Da.nil)) ⟨a, d, rfl, wa, hx d (List.mem_of_getElem? hd2), a5, hd, rfl⟩
      · obtain ⟨_, _, rfl⟩ := List.mem_map.mp hd
        rfl
      · rcases hk with rfl | ⟨rfl, pw⟩
        · exact Dr.ret (De.orT (De.cast (De.eqS (dv 2 (d := .str kLane)) De.str) rfl))
        · refine Dr.ret (De.orF (De.cast (De.eqS (dv 2 (d := .str kHeap)) De.str) (congrArg PyData.bool (by decide +kernel))) (De.one (De.cast (De.eq hr.units (De.listOf hfr (dv 1 (d := .tuple xs))) (De.call (FV.mono (by omega)) hr (Da.cons (De.ixT (k := 1) (d := a.enc) (De.cast (dv 0 (d := s0.enc)) es) De.int rfl) (Da.cons (dv 1 (d := .tuple xs)) Da.nil))
            ⟨a, xs, .inr rfl, hx, a5, by omega, pw, rfl⟩) (list_shaped wa a5 hx) (list_shaped wa a5 hx)) (congrArg PyData.bool (eqv_self wa hx)))))
    cases s with
    | mark ls =>
      exact Dr.ifT (Dt.cast (Dt.inT (zs := ["mark", "count"]) (dv 2 (d := .str kMark)) (De.tup (Da.cons De.str (Da.cons De.str Da.nil)))) (by decide +kernel)) (Dr.ret (De.cast (De.isN (d := .none) (De.call (FB.mono (by omega)) hr (Da.cons (dv 0 (d := (S.mark ls).enc)) (Da.cons (dv 1 (d := v)) Da.nil)) ⟨_, _, rfl, ht, h5, rfl⟩)) rfl))
    | count =>
      exact Dr.ifT (Dt.cast (Dt.inT (zs := ["mark", "count"]) (dv 2 (d := .str kCount)) (De.tup (Da.cons De.str (Da.cons De.str Da.nil)))) (by decide +kernel)) (Dr.ret (De.cast (De.isN (d := .none) (De.call (FB.mono (by omega)) hr (Da.cons (dv 0 (d := S.count.enc)) (Da.cons (dv 1 (d := v)) Da.nil)) ⟨_, _, rfl, ht, h5, rfl⟩)) rfl))
    | both a b =>
      obtain ⟨x, y, rfl, hx, hy⟩ := ht
      have da := d_b1 (a := a) (b := b)
      have db := d_b2 (a := a) (b := b)
      exact Dr.ifF (Dt.cast (Dt.inT (zs := ["mark", "count"]) (dv 2 (d := .str kBoth)) (De.tup (Da.cons De.str (Da.cons De.str Da.nil)))) (by decide +kernel)) (Dr.ifT (Dt.isS (x := kBoth) (dv 2)) (Dr.ret (De.andT (De.call (FP.mono (by omega)) hr (Da.cons (dv 1 (d := .tuple [x, y])) Da.nil) ⟨_, _, rfl, rfl⟩)
        (De.andT (De.call IH (hr.mono (by omega)) (Da.cons (De.ixT (k := 1) (d := a.enc) (De.enc (s := .both a b) (dv 0)) De.int rfl) (Da.cons (De.ixT (k := 0) (d := x) (dv 1 (d := .tuple [x, y])) De.int rfl) Da.nil)) ⟨a, x, rfl, hw.1, hx, by omega, by omega, rfl⟩)
        (De.one (De.call IH (hr.mono (by omega)) (Da.cons (De.ixT (k := 2) (d := b.enc) (De.enc (s := .both a b) (dv 0)) De.int rfl) (Da.cons (De.ixT (k := 1) (d := y) (dv 1 (d := .tuple [x, y])) De.int rfl) Da.nil)) ⟨b, y, rfl, hw.2, hy, by omega, by omega, rfl⟩))))))
    | either a b =>
      have da := d_e1 (a := a) (b := b)
      have db := d_e2 (a := a) (b := b)
      rcases ht with ⟨x, rfl, hx⟩ | ⟨x, rfl, hx⟩
      · exact Dr.ifF (Dt.cast (Dt.inT (zs := ["mark", "count"]) (dv 2 (d := .str kEither)) (De.tup (Da.cons De.str (Da.cons De.str Da.nil)))) (by decide +kernel)) (Dr.ifF (Dt.isS (x := kEither) (dv 2)) (Dr.ifT (Dt.isS (x := kEither) (dv 2)) (Dr.ret (De.andT (De.call (FS.mono (by omega)) hr (Da.cons (dv 1 (d := .tuple [.str sL, x])) Da.nil) ⟨_, _, rfl, by simp, rfl⟩)
          (De.one (De.call IH (hr.mono (by omega)) (Da.cons (De.ixT (k := 1) (d := a.enc) (De.enc (s := .either a b) (dv 0)) (De.cast (De.add De.int (De.side (k := 0) G (by decide) (De.ixT (k := 0) (d := .str sL) (dv 1 (d := .tuple [.str sL, x])) De.int rfl))) rfl) rfl) (Da.cons (De.ixT (k := 1) (d := x) (dv 1 (d := .tuple [.str sL, x])) De.int rfl) Da.nil)) ⟨a, x, rfl, hw.1, hx, by omega, by omega, rfl⟩))))))
      · exact Dr.ifF (Dt.cast (Dt.inT (zs := ["mark", "count"]) (dv 2 (d := .str kEither)) (De.tup (Da.cons De.str (Da.cons De.str Da.nil)))) (by decide +kernel)) (Dr.ifF (Dt.isS (x := kEither) (dv 2)) (Dr.ifT (Dt.isS (x := kEither) (dv 2)) (Dr.ret (De.andT (De.call (FS.mono (by omega)) hr (Da.cons (dv 1 (d := .tuple [.str sR, x])) Da.nil) ⟨_, _, rfl, by simp, rfl⟩)
          (De.one (De.call IH (hr.mono (by omega)) (Da.cons (De.ixT (k := 2) (d := b.enc) (De.enc (s := .either a b) (dv 0)) (De.cast (De.add De.int (De.side (k := 1) G (by decide) (De.ixT (k := 0) (d := .str sR) (dv 1 (d := .tuple [.str sR, x])) De.int rfl))) rfl) rfl) (Da.cons (De.ixT (k := 1) (d := x) (dv 1 (d := .tuple [.str sR, x])) De.int rfl) Da.nil)) ⟨b, x, rfl, hw.2, hx, by omega, by omega, rfl⟩))))))
    | lane a =>
      obtain ⟨xs, rfl, h3, hx⟩ := ht
      have da := d_l (a := a)
      exact Dr.ifF (Dt.cast (Dt.inT (zs := ["mark", "count"]) (dv 2 (d := .str kLane)) (De.tup (Da.cons De.str (Da.cons De.str Da.nil)))) (by decide +kernel)) (Dr.ifF (Dt.isS (x := kLane) (dv 2)) (Dr.ifF (Dt.isS (x := kLane) (dv 2)) (row a xs hw (by omega) h3 hx (by omega) kLane (.lane a) rfl (.inl rfl) _ _ _ _ hr)))
    | heap a =>
      obtain ⟨xs, rfl, h3, hx, pw⟩ := ht
      have da := d_h (a := a)
      exact Dr.ifF (Dt.cast (Dt.inT (zs := ["mark", "count"]) (dv 2 (d := .str kHeap)) (De.tup (Da.cons De.str (Da.cons De.str Da.nil)))) (by decide +kernel)) (Dr.ifF (Dt.isS (x := kHeap) (dv 2)) (Dr.ifF (Dt.isS (x := kHeap) (dv 2)) (row a xs hw (by omega) h3 hx (by omega) kHeap (.heap a) rfl (.inr ⟨rfl, pw⟩) _ _ _ _ hr)))

/-- a sort and a value of it -/
def RSV (res : S → PyData → PyData) (ds : List PyData) (d : PyData) : Prop := ∃ (s : S) (v : PyData), ds = [s.enc, v] ∧ Good s ∧ LB.T s v ∧ d = res s v
abbrev sIsV : Stmt := top 35
theorem sc_isv : FnScope ["sort", "value"] ["sort", "value"] (defScope sIsV) := ⟨rfl, rfl, rfl, by decide +kernel, rfl, by decide +kernel, by decide +kernel⟩
theorem w_isv (F : Fun K "is_value" "is_value" sIsV f fd) (hm : mg "is_value" = some (.ref f)) (hb : Binds K fd ["sort", "value"] []) (FC : Fd P w K mg base T 10 "check_sort" RCheck) (FF : Fd P w K mg base T 19 "is_formed" (RFormed 5)) : Fd P w K mg base T 20 "is_value" (RSV fun _ _ => .bool true) := by
  refine Fd.mk (m := 0) F hm hb sc_isv (fun ds d ⟨_, _, e, _⟩ => by rw [e]; rfl) fun cdv A outer s H E ds d hr ⟨s, v, e1, g, ht, e2⟩ => ?_
  subst e1 e2
  exact Dr.next (Dn1.expr (De.call (FC.mono (by decide)) hr (Da.cons (dv 0 (d := s.enc)) Da.nil) ⟨⟨s, rfl, g⟩, rfl⟩)) (Dr.ret (De.call FF hr (Da.cons (dv 0 (d := s.enc)) (Da.cons (dv 1 (d := v)) Da.nil)) ⟨s, v, rfl, g.wf, ht, g.dp, g.dp, rfl⟩))
abbrev sBadF : Stmt := top 36
theorem sc_badf : FnScope ["sort", "value", "path"] ["sort", "value"] (defScope sBadF) := ⟨rfl, rfl, rfl, by decide +kernel, rfl, by decide +kernel, by decide +kernel⟩
theorem w_badf (F : Fun K "bad_form" "bad_form" sBadF f fd) (hm : mg "bad_form" = some (.ref f)) (hb : Binds K fd ["sort", "value"] []) (FB : Fd P w K mg base T 13 "bad_place" (RBad 5)) (FF : Fd P w K mg base T 19 "is_formed" (RFormed 5)) : Fd P w K mg base T 20 "bad_form" (RSV fun _ _ => .none) := by
  refine Fd.mk (m := 1) F hm hb sc_badf (fun ds d ⟨_, _, e, _⟩ => by rw [e]; rfl) fun cdv A outer s H E ds d hr ⟨s, v, e1, g, ht, e2⟩ => ?_
  subst e1 e2
  refine Dr.next (Dn1.set (i := 2) sc_badf.nd (De.call (FB.mono (by decide)) hr (Da.cons (dv 0 (d := s.enc)) (Da.cons (dv 1 (d := v)) Da.nil)) ⟨s, v, rfl, ht, g.dp, rfl⟩)) (Dr.ifF (Dt.notN (dv 2 (d := .none))) (Dr.ret (De.ifT (Dt.val (De.call FF hr (Da.cons (dv 0 (d := s.enc)) (Da.cons (dv 1 (d := v)) Da.nil)) ⟨s, v, rfl, g.wf, ht, g.dp, g.dp, rfl⟩)) De.non)))
abbrev sNeed : Stmt := top 37
theorem sc_need : FnScope ["sort", "value", "path"] ["sort", "value"] (defScope sNeed) := ⟨rfl, rfl, rfl, by decide +kernel, rfl, by decide +kernel, by decide +kernel⟩
theorem w_need (F : Fun K "need_value" "need_value" sNeed f fd) (hm : mg "need_value" = some (.ref f)) (hb : Binds K fd ["sort", "value"] []) (FB : Fd P w K mg base T 20 "bad_form" (RSV fun _ _ => .none)) : Fd P w K mg base T 21 "need_value" (RSV fun _ _ => .none) := by
  refine Fd.imp (R := fun ds d => (∃ (s : S) (v : PyData), ds = [s.enc, v] ∧ Good s ∧ LB.T s v) ∧ d = .none) ?_ fun ds d ⟨s, v, a, b, c, e⟩ => ⟨⟨s, v, a, b, c⟩, e⟩
  refine Fd.mkN (m := 1) F hm hb sc_need (fun ds ⟨_, _, e, _⟩ => by rw [e]; rfl) fun cdv A outer s H E ds hr ⟨s, v, e1, g, ht⟩ => ?_
  subst e1
  exact ⟨_, Dn.cons (Dn1.set (i := 2) sc_need.nd (De.call FB hr (Da.cons (dv 0 (d := s.enc)) (Da.cons (dv 1 (d := v)) Da.nil)) ⟨s, v, rfl, g, ht, rfl⟩)) (Dn.cons (Dn1.ifF (Dt.notN (dv 2 (d := .none)))) Dn.nil)⟩
abbrev sOrd : Stmt := top 38
theorem sc_ord : FnScope ["sort", "values", "place", "value", "path"] ["sort", "values"] (defScope sOrd) := ⟨rfl, rfl, rfl, by decide +kernel, rfl, by decide +kernel, by decide +kernel⟩
def ROrd (ds : List PyData) (d : PyData) : Prop := ∃ (s : S) (vs : List PyData), ds = [s.enc, .list vs] ∧ Good s ∧ (∀ v ∈ vs, LB.T s v) ∧ vs.length ≤ 1000 ∧ vs.Pairwise (Le s) ∧ d = .list vs
theorem w_ord (F : Fun K "ordered" "ordered" sOrd f fd) (hm : mg "ordered" = some (.ref f)) (hb : Binds K fd ["sort", "values"] []) (G : Gb w mg K) (FC : Fd P w K mg base T 10 "check_sort" RCheck) (FB : Fd P w K mg base T 20 "bad_form" (RSV fun _ _ => .none)) (FV : Fd P w K mg base T 10 "sorted_values" RSorted) :
    Fd P w K mg base T 21 "ordered" ROrd := by
  refine Fd.mk (m := 3) F hm hb sc_ord (fun ds d ⟨_, _, e, _⟩ => by rw [e]; rfl) fun cdv A outer s H E ds d hr ⟨s, vs, e1, g, ht, few, pw, e2⟩ => ?_
  subst e1 e2
  have hfr := G.fr
  refine Dr.next (Dn1.expr (De.call (FC.mono (by decide)) hr (Da.cons (dv 0 (d := s.enc)) Da.nil) ⟨⟨s, rfl, g⟩, rfl⟩)) ?_
  refine Dr.next (Dn1.forEL (i := 2) (j := 3) hfr PassesOwn.never rfl (dv 1 (d := .list vs)) (fun k d hd => ?_) rfl rfl (pg_tup rfl (pgs_cons (pg_name sc_ord.nd rfl (Or.inl rfl)) (pgs_cons (pg_name sc_ord.nd rfl (Or.inl rfl)) pgs_nil))))
    (Dr.ret (De.call (FV.mono (by decide)) hr (Da.cons (dv 0 (d := s.enc)) (Da.cons (dv 1 (d := .list vs)) Da.nil)) ⟨s, vs, .inl rfl, ht, g.dp, few, pw, rfl⟩))
  refine ⟨_, Dn.cons (Dn1.set (i := 4) sc_ord.nd (De.call FB hr (Da.cons (dv 0 (d := s.enc)) (Da.cons (dv 3 (d := d)) Da.nil)) ⟨s, d, rfl, g, ht d (List.mem_of_getElem? hd), rfl⟩)) (Dn.cons (Dn1.ifF (Dt.notN (dv 4 (d := .none)))) Dn.nil), ?_⟩
  exact Sub.tl (Sub.tl (Sub.no (Sub.no (Sub.no Sub.ni))))
end
end LB
end
section
set_option autoImplicit false
set_option Elab.async false
set_option linter.all false
set_option maxRecDepth 100000
set_option maxHeartbeats 4000000
/-! Walks: sizes. -/
namespace LB
open PySem PySem.Spec PySem.W PyProof.Rows L2 LamX
section
variable {P : Program} {w : World} {K : PySem.W.Frag} {mg : Str → Option Value} {base : Heap} {T : List (Addr × Str)} {f : Addr} {fd : FuncData}
theorem sum_ints (f : PyData → Nat) : ∀ xs : List PyData, (xs.map fun x => ((1 + f x : Nat) : Int)).sum = ((sum (xs.map fun x => 1 + f x) : Nat) : Int)
  | [] => rfl
  | x :: xs => by
    have z := sum_ints f xs
    simp only [List.map_cons, List.sum_cons, sum] at z ⊢
    rw [z]
    omega
abbrev sRSize : Stmt := top 49
theorem sc_rsize : FnScope ["sort", "value", "kind", "one"] ["sort", "value"] (defScope sRSize) := ⟨rfl, rfl, rfl, by decide +kernel, rfl, by decide +kernel, by decide +kernel⟩
def RSize (n : Nat) (ds : List PyData) (d : PyData) : Prop := ∃ (s : S) (v : PyData), ds = [s.enc, v] ∧ LB.T s v ∧ dep s ≤ n ∧ d = .int (sz s v : Nat)
theorem w_rsize (F : Fun K "raw_size" "raw_size" sRSize f fd) (hm : mg "raw_size" = some (.ref f)) (hb : Binds K fd ["sort", "value"] []) (G : Gb w mg K) : ∀ n, Fd P w K mg base T (n + 1) "raw_size" (RSize n)
  | 0 => Fd.void F hm hb sc_rsize fun ds d ⟨s, _, _, _, h, _⟩ => by have := dep_pos s; omega
  | n + 1 => by
    have IH := w_rsize F hm hb G n
    refine Fd.mk (m := 2) F hm hb sc_rsize (fun ds d ⟨_, _, e, _⟩ => by rw [e]; rfl) fun cdv A outer s H E ds d hr ⟨s, v, e1, ht, hn, e2⟩ => ?_
    subst e1 e2
    have hfr := G.fr
    refine Dr.next (Dn1.set (i := 2) sc_rsize.nd (De.kind (s := s) (dv 0))) ?_
    have row : ∀ (a : S) (xs : List PyData), xs.length ≤ 3 → (∀ x ∈ xs, LB.T a x) → dep a ≤ n → ∀ (k : Str) (s0 : S), s0.enc = .tuple [.str k, a.enc] → ∀ (sh : Shared) (cdv : Value) (H : Hp) (E : XK), Room (n + 1) (A.deeper (envOfC "raw_size" (defScope sRSize) sh.heap.objs.size f cdv)) →
        Dr (cxOf CX0 P w K mg base ["sort", "value", "kind", "one"] "raw_size" (defScope sRSize) f cdv A outer sh H E).nox T [some s0.enc, some (.tuple xs), some (.str k), none] ((defBody sRSize).drop 4) (.int (sum (xs.map fun x => 1 + sz a x) : Nat)) := by
      intro a xs h3 hx hd k s0 es sh cdv H E hr
      refine Dr.ret (De.cast (De.sum (ns := xs.map fun x => ((1 + sz a x : Nat) : Int)) hfr rfl (De.cast (De.lcm (es := xs.map fun x => .int ((1 + sz a x : Nat) : Int)) rfl sc_rsize.nd (src_t (i := 3) (dv 1 (d := .tuple xs)) (fun _ _ _ _ _ => pg_name sc_rsize.nd rfl (Or.inl rfl))) ?_ ?_ (fun j b e hb he s2 H2 C cl fp => ?_)
        (blkOk_by (N := ["sort", "value", "kind", "one"]) (sc := defScope sRSize) (own := [("one", 3)]) (by decide +kernel))) ?_)) ?_)
      · rw [ones_len, List.length_map]
      · rw [ones_len]
        omega
      · obtain ⟨d, hd2, rfl⟩ := ones_at hb
        rw [List.getElem?_map, hd2] at he
        cases he
        exact De.cast (De.add De.int (De.call IH (hr.mono (by omega)) (Da.cons (De.ixT (k := 1) (d := a.enc) (De.cast (dv 0 (d := s0.enc)) es) De.int rfl) (Da.cons (dv 3 (d := d)) Da.nil)) ⟨a, d, rfl, hx d (List.mem_of_getElem? hd2), hd, rfl⟩)) (congrArg PyData.int (by omega))
      · rw [List.map_map]
        rfl
      · rw [sum_ints]
    cases s with
    | mark ls =>
      obtain ⟨x, hx, rfl⟩ := ht
      exact Dr.ifT (Dt.cast (Dt.inT (zs := ["mark", "count"]) (dv 2 (d := .str kMark)) (De.tup (Da.cons De.str (Da.cons De.str Da.nil)))) (by decide +kernel)) (Dr.ret (De.ifT (Dt.isS (x := kMark) (dv 2)) De.int))
    | count =>
      obtain ⟨m, hm3, rfl⟩ := ht
      exact Dr.ifT (Dt.cast (Dt.inT (zs := ["mark", "count"]) (dv 2 (d := .str kCount)) (De.tup (Da.cons De.str (Da.cons De.str Da.nil)))) (by decide +kernel)) (Dr.ret (De.ifF (Dt.isS (x := kCount) (dv 2)) (De.cast (dv 1 (d := .int (m : Nat))) rfl)))
    | both a b =>
      obtain ⟨x, y, rfl, hx, hy⟩ := ht
      have da := d_b1 (a := a) (b := b)
      have db := d_b2 (a := a) (b := b)
      refine Dr.ifF (Dt.cast (Dt.inT (zs := ["mark", "count"]) (dv 2 (d := .str kBoth)) (De.tup (Da.cons De.str (Da.cons De.str Da.nil)))) (by decide +kernel)) (Dr.ifT (Dt.isS (x := kBoth) (dv 2)) (Dr.ret (De.cast (De.add
        (De.call IH (hr.mono (by omega)) (Da.cons (De.ixT (k := 1) (d := a.enc) (De.enc (s := .both a b) (dv 0)) De.int rfl) (Da.cons (De.ixT (k := 0) (d := x) (dv 1 (d := .tuple [x, y])) De.int rfl) Da.nil)) ⟨a, x, rfl, hx, by omega, rfl⟩)
        (De.call IH (hr.mono (by omega)) (Da.cons (De.ixT (k := 2) (d := b.enc) (De.enc (s := .both a b) (dv 0)) De.int rfl) (Da.cons (De.ixT (k := 1) (d := y) (dv 1 (d := .tuple [x, y])) De.int rfl) Da.nil)) ⟨b, y, rfl, hy, by omega, rfl⟩)) ?_)))
      show PyData.int _ = .int ((sz a x + sz b y : Nat) : Int)
      exact congrArg PyData.int (by omega)
    | either a b =>
      have da := d_e1 (a := a) (b := b)
      have db := d_e2 (a := a) (b := b)
      rcases ht with ⟨x, rfl, hx⟩ | ⟨x, rfl, hx⟩
      · refine Dr.ifF (Dt.cast (Dt.inT (zs := ["mark", "count"]) (dv 2 (d := .str kEither)) (De.tup (Da.cons De.str (Da.cons De.str Da.nil)))) (by decide +kernel)) (Dr.ifF (Dt.isS (x := kEither) (dv 2)) (Dr.ifT (Dt.isS (x := kEither) (dv 2)) (Dr.ret (De.cast
          (De.call IH (hr.mono (by omega)) (Da.cons (De.ixT (k := 1) (d := a.enc) (De.enc (s := .either a b) (dv 0)) (De.cast (De.add De.int (De.side (k := 0) G (by decide) (De.ixT (k := 0) (d := .str sL) (dv 1 (d := .tuple [.str sL, x])) De.int rfl))) rfl) rfl) (Da.cons (De.ixT (k := 1) (d := x) (dv 1 (d := .tuple [.str sL, x])) De.int rfl) Da.nil)) ⟨a, x, rfl, hx, by omega, rfl⟩) ?_))))
        simp only [sz, if_pos True.intro]
      · refine Dr.ifF (Dt.cast (Dt.inT (zs := ["mark", "count"]) (dv 2 (d := .str kEither)) (De.tup (Da.cons De.str (Da.cons De.str Da.nil)))) (by decide +kernel)) (Dr.ifF (Dt.isS (x := kEither) (dv 2)) (Dr.ifT (Dt.isS (x := kEither) (dv 2)) (Dr.ret (De.cast
          (De.call IH (hr.mono (by omega)) (Da.cons (De.ixT (k := 2) (d := b.enc) (De.enc (s := .either a b) (dv 0)) (De.cast (De.add De.int (De.side (k := 1) G (by decide) (De.ixT (k := 0) (d := .str sR) (dv 1 (d := .tuple [.str sR, x])) De.int rfl))) rfl) rfl) (Da.cons (De.ixT (k := 1) (d := x) (dv 1 (d := .tuple [.str sR, x])) De.int rfl) Da.nil)) ⟨b, x, rfl, hx, by omega, rfl⟩) ?_))))
        simp only [sz, if_neg nRL]
    | lane a =>
      obtain ⟨xs, rfl, h3, hx⟩ := ht
      have da := d_l (a := a)
      exact Dr.ifF (Dt.cast (Dt.inT (zs := ["mark", "count"]) (dv 2 (d := .str kLane)) (De.tup (Da.cons De.str (Da.cons De.str Da.nil)))) (by decide +kernel)) (Dr.ifF (Dt.isS (x := kLane) (dv 2)) (Dr.ifF (Dt.isS (x := kLane) (dv 2)) (row a xs h3 hx (by omega) kLane (.lane a) rfl _ _ _ _ hr)))
    | heap a =>
      obtain ⟨xs, rfl, h3, hx, _⟩ := ht
      have da := d_h (a := a)
      exact Dr.ifF (Dt.cast (Dt.inT (zs := ["mark", "count"]) (dv 2 (d := .str kHeap)) (De.tup (Da.cons De.str (Da.cons De.str Da.nil)))) (by decide +kernel)) (Dr.ifF (Dt.isS (x := kHeap) (dv 2)) (Dr.ifF (Dt.isS (x := kHeap) (dv 2)) (row a xs h3 hx (by omega) kHeap (.heap a) rfl _ _ _ _ hr)))
abbrev sSize : Stmt := top 50
theorem sc_size : FnScope ["sort", "value"] ["sort", "value"] (defScope sSize) := ⟨rfl, rfl, rfl, by decide +kernel, rfl, by decide +kernel, by decide +kernel⟩
theorem w_size (F : Fun K "size" "size" sSize f fd) (hm : mg "size" = some (.ref f)) (hb : Binds K fd ["sort", "value"] []) (FC : Fd P w K mg base T 10 "check_sort" RCheck) (FN : Fd P w K mg base T 21 "need_value" (RSV fun _ _ => .none)) (FS : Fd P w K mg base T 6 "raw_size" (RSize 5)) : Fd P w K mg base T 22 "size" (RSV fun s v => .int (sz s v : Nat)) := by
  refine Fd.mk (m := 0) F hm hb sc_size (fun ds d ⟨_, _, e, _⟩ => by rw [e]; rfl) fun cdv A outer s H E ds d hr ⟨s, v, e1, g, ht, e2⟩ => ?_
  subst e1 e2
  exact Dr.next (Dn1.expr (De.call (FC.mono (by decide)) hr (Da.cons (dv 0 (d := s.enc)) Da.nil) ⟨⟨s, rfl, g⟩, rfl⟩)) (Dr.next (Dn1.expr (De.call FN hr (Da.cons (dv 0 (d := s.enc)) (Da.cons (dv 1 (d := v)) Da.nil)) ⟨s, v, rfl, g, ht, rfl⟩))
    (Dr.ret (De.call (FS.mono (by decide)) hr (Da.cons (dv 0 (d := s.enc)) (Da.cons (dv 1 (d := v)) Da.nil)) ⟨s, v, rfl, ht, g.dp, rfl⟩)))
end
end LB
end
section
set_option autoImplicit false
set_option Elab.async false
set_option linter.all false
set_option maxRecDepth 100000
set_option maxHeartbeats 4000000
/-! Rising places, by rows. -/
namespace LB
open PySem PySem.W PyProof.Rows
def stepR (row : List Nat) (p : Nat) : Option Nat := row.find? fun q => decide (p ≤ q)
def preR : List (List Nat) → Nat → List Nat
  | [], _ => []
  | r :: rs, p => match stepR r p with
    | none => []
    | some q => q :: preR rs (q + 1)
def plR (rows : List (List Nat)) (p : Nat) : Nat → Nat
  | 0 => p
  | k + 1 => (preR rows p).getD k 0 + 1
def risM (rows : List (List Nat)) : Option (List Nat) := if (preR rows 0).length = rows.length then some (preR rows 0) else none
def okR (rows : List (List Nat)) : Bool := match risM rows with
  | none => (choices rows).all fun ps => !decide (ps.Pairwise (· < ·))
  | some ps => decide (ps ∈ choices rows) && decide (ps.Pairwise (· < ·))
theorem okR_all : (allRows.all okR) = true := by decide +kernel
theorem preR_len : ∀ (rows : List (List Nat)) (p : Nat), (preR rows p).length ≤ rows.length
  | [], _ => Nat.le_refl _
  | r :: rs, p => by
    unfold preR
    split
    · exact Nat.zero_le _
    · exact Nat.succ_le_succ (preR_len rs _)
theorem preR_step : ∀ {rows : List (List Nat)} {p k : Nat} {r : List Nat}, rows[k]? = some r → k < (preR rows p).length → stepR r (plR rows p k) = some ((preR rows p).getD k 0)
  | r0 :: rs, p, 0, r, h, hk => by
    have h : r0 = r := Option.some.inj h
    subst h
    cases e : stepR r0 p with
    | none => unfold preR at hk; rw [e] at hk; simp at hk
    | some q =>
      show stepR r0 p = _
      rw [e]
      unfold preR
      rw [e]
      rfl
  | r0 :: rs, p, k + 1, r, h, hk => by
    have h : rs[k]? = some r := h
    cases e : stepR r0 p with
    | none => unfold preR at hk; rw [e] at hk; simp at hk
    | some q =>
      have e2 : preR (r0 :: rs) p = q :: preR rs (q + 1) := by
        rw [preR, e]
      rw [e2] at hk ⊢
      have z := preR_step (p := q + 1) h (by simpa using hk)
      show stepR r ((preR (r0 :: rs) p).getD k 0 + 1) = _
      rw [e2]
      cases k with
      | zero => exact z
      | succ k => exact z
theorem preR_stop : ∀ {rows : List (List Nat)} {p : Nat} {r : List Nat}, rows[(preR rows p).length]? = some r → stepR r (plR rows p (preR rows p).length) = none
  | r0 :: rs, p, r, h => by
    cases e : stepR r0 p with
    | none =>
      have e2 : preR (r0 :: rs) p = [] := by rw [preR, e]
      rw [e2] at h ⊢
      cases h
      exact e
    | some q =>
      have e2 : preR (r0 :: rs) p = q :: preR rs (q + 1) := by rw [preR, e]
      rw [e2] at h ⊢
      have z := preR_stop (p := q + 1) (show rs[(preR rs (q + 1)).length]? = some r from h)
      show stepR r ((preR (r0 :: rs) p).getD (preR rs (q + 1)).length 0 + 1) = none
      rw [e2]
      cases e3 : (preR rs (q + 1)).length with
      | zero => rw [e3] at z; exact z
      | succ k => rw [e3] at z; exact z
theorem step_some {n p r : Nat} {q : Nat → Bool} (h : stepR ((List.range n).filter q) p = some r) : r < n ∧ q r = true ∧ p ≤ r ∧ ∀ x, p ≤ x → x < r → q x = false := by
  unfold stepR at h
  rw [List.find?_filter] at h
  rw [List.find?_range_eq_some] at h
  obtain ⟨h1, h2, h3⟩ := h
  have h1 := of_decide_eq_true h1
  rw [decide_eq_true_eq] at h1
  refine ⟨List.mem_range.mp h2, h1.1, h1.2, fun x hp hx => ?_⟩
  have z := h3 x hx
  simpa [hp] using z
theorem step_none {n p : Nat} {q : Nat → Bool} (h : stepR ((List.range n).filter q) p = none) : ∀ x, p ≤ x → x < n → q x = false := fun x hp hx => by
  unfold stepR at h
  rw [List.find?_filter] at h
  rw [List.find?_range_eq_none] at h
  have z := h x hx
  simpa [hp] using z
inductive RisOk (rows : List (List Nat)) : Option (List Nat) → Prop
  | no : (∀ ps : List Nat, Up ps → ¬ (ps.length = rows.length ∧ ∀ (k p : Nat) (r : List Nat), ps[k]? = some p → rows[k]? = some r → p ∈ r)) → RisOk rows none
  | yes (ps : List Nat) : Up ps → ps.length = rows.length → (∀ (k p : Nat) (r : List Nat), ps[k]? = some p → rows[k]? = some r → p ∈ r) → RisOk rows (some ps)
theorem ris_ok {rows : List (List Nat)} (h : rows ∈ allRows) : RisOk rows (risM rows) := by
  have z := List.all_eq_true.mp okR_all rows h
  unfold okR at z
  cases e : risM rows with
  | none =>
    rw [e] at z
    refine .no fun ps up hp => ?_
    have := List.all_eq_true.mp z ps (mem_choices.mpr hp)
    rw [decide_eq_true (show ps.Pairwise (· < ·) from up)] at this
    cases this
  | some ps =>
    rw [e] at z
    simp only [Bool.and_eq_true, decide_eq_true_eq] at z
    obtain ⟨z1, z2⟩ := z
    obtain ⟨h1, h2⟩ := mem_choices.mp z1
    exact .yes ps z2 h1 h2

/-! ### holding, told by a Bool -/
noncomputable def hB (s : S) (v u : PyData) : Bool := @decide (Hd s v u) (Classical.propDecidable _)
theorem hB_iff {s : S} {v u : PyData} : hB s v u = true ↔ Hd s v u := by
  unfold hB
  exact @decide_eq_true_iff _ (Classical.propDecidable _)
noncomputable def rowsOf (a : S) (vs us : List PyData) : List (List Nat) := us.map fun u => (List.range vs.length).filter fun p => hB a (vs.getD p .none) u
theorem rowsOf_ok {a : S} {vs us : List PyData} (h1 : vs.length ≤ 3) (h2 : us.length ≤ 3) : rowsOf a vs us ∈ allRows := by
  refine mem_allRows (by unfold rowsOf; rw [List.length_map]; exact h2) fun r hr => ?_
  obtain ⟨u, _, rfl⟩ := List.mem_map.mp hr
  exact range_row h1 _
theorem emb_rows {a : S} {vs us : List PyData} {ps : List Nat} : Emb (Hd a) vs us ps ↔ ps.length = (rowsOf a vs us).length ∧ ∀ (k p : Nat) (r : List Nat), ps[k]? = some p → (rowsOf a vs us)[k]? = some r → p ∈ r := by
  unfold Emb rowsOf
  rw [List.length_map]
  refine and_congr_right fun hl => ⟨fun h k p r hp hr => ?_, fun h k p u hp hu => ?_⟩
  · rw [List.getElem?_map] at hr
    obtain ⟨u, hu, rfl⟩ := Option.map_eq_some_iff.mp hr
    obtain ⟨v, hv, hd⟩ := h k p u hp hu
    have hlt := (List.getElem?_eq_some_iff.mp hv).1
    refine List.mem_filter.mpr ⟨List.mem_range.mpr hlt, hB_iff.mpr ?_⟩
    rw [List.getD_eq_getElem?_getD, hv]
    exact hd
  · have hr : (us.map fun u => (List.range vs.length).filter fun p => hB a (vs.getD p .none) u)[k]? = some ((List.range vs.length).filter fun p => hB a (vs.getD p .none) u) := by
      rw [List.getElem?_map, hu]
      rfl
    have m := List.mem_filter.mp (h k p _ hp hr)
    have hlt := List.mem_range.mp m.1
    refine ⟨vs[p], List.getElem?_eq_getElem hlt, ?_⟩
    have z := hB_iff.mp m.2
    rw [List.getD_eq_getElem?_getD, List.getElem?_eq_getElem hlt] at z
    exact z
/-- what raw_places gives -/
noncomputable def placesM (s : S) (v u : PyData) : Option (List Nat) := match s, v, u with
  | .lane a, .tuple vs, .tuple us => risM (rowsOf a vs us)
  | .heap a, .tuple vs, .tuple us => (unlikeM (rowsOf a vs us)).getD none
  | _, _, _ => none
theorem places_lane {a : S} {vs us : List PyData} (h1 : vs.length ≤ 3) (h2 : us.length ≤ 3) : (placesM (.lane a) (.tuple vs) (.tuple us)).isSome = hB (.lane a) (.tuple vs) (.tuple us) ∧ ∀ ps, placesM (.lane a) (.tuple vs) (.tuple us) = some ps → Up ps ∧ Emb (Hd a) vs us ps := by
  show (risM (rowsOf a vs us)).isSome = _ ∧ ∀ ps, risM (rowsOf a vs us) = some ps → _
  have z := ris_ok (rowsOf_ok (a := a) h1 h2)
  generalize risM (rowsOf a vs us) = o at z
  cases z with
  | no h =>
    refine ⟨?_, fun ps e => by cases e⟩
    show false = _
    cases q : hB (.lane a) (.tuple vs) (.tuple us) with
    | false => rfl
    | true =>
      obtain ⟨vs', us', e1, e2, ps, up, em⟩ := hB_iff.mp q
      cases e1
      cases e2
      exact absurd (emb_rows.mp em) (h ps up)
  | yes ps up hl h =>
    have em : Emb (Hd a) vs us ps := emb_rows.mpr ⟨hl, h⟩
    exact ⟨(hB_iff.mpr (show Hd (.lane a) (.tuple vs) (.tuple us) from ⟨vs, us, rfl, rfl, ps, up, em⟩)).symm, fun qs e => by cases e; exact ⟨up, em⟩⟩
theorem places_heap {a : S} {vs us : List PyData} (h1 : vs.length ≤ 3) (h2 : us.length ≤ 3) : (∃ o, unlikeM (rowsOf a vs us) = some o ∧ placesM (.heap a) (.tuple vs) (.tuple us) = o) ∧ (placesM (.heap a) (.tuple vs) (.tuple us)).isSome = hB (.heap a) (.tuple vs) (.tuple us) ∧
    ∀ ps, placesM (.heap a) (.tuple vs) (.tuple us) = some ps → ps.Nodup ∧ Emb (Hd a) vs us ps := by
  obtain ⟨o, eo, z⟩ := unlike_ok (rowsOf_ok (a := a) h1 h2)
  have ep : placesM (.heap a) (.tuple vs) (.tuple us) = o := by
    show (unlikeM (rowsOf a vs us)).getD none = o
    rw [eo]
    rfl
  refine ⟨⟨o, eo, ep⟩, ?_⟩
  rw [ep]
  cases z with
  | no h =>
    refine ⟨?_, fun ps e => by cases e⟩
    show false = _
    cases q : hB (.heap a) (.tuple vs) (.tuple us) with
    | false => rfl
    | true =>
      obtain ⟨vs', us', e1, e2, ps, up, em⟩ := hB_iff.mp q
      cases e1
      cases e2
      exact absurd (emb_rows.mp em) (h ps up)
  | yes ps nd hl h =>
    have em : Emb (Hd a) vs us ps := emb_rows.mpr ⟨hl, h⟩
    exact ⟨(hB_iff.mpr (show Hd (.heap a) (.tuple vs) (.tuple us) from ⟨vs, us, rfl, rfl, ps, nd, em⟩)).symm, fun qs e => by cases e; exact ⟨nd, em⟩⟩
end LB
end
section
set_option autoImplicit false
set_option Elab.async false
set_option linter.all false
set_option maxRecDepth 100000
set_option maxHeartbeats 4000000
/-! while; found, place = [], 0. -/
namespace LB
open PySem PySem.Spec PyProof.Rows L2 LamX
section
variable {X : Cx} {T : List (Addr × Str)} {i j : Nat} {δ : List (Option PyData)} {as : List PyData} {c : Expr} {rest body : List Stmt} {d : PyData} {x y : Str} {pos px py pt p1 p2 p3 : Pos}
theorem Ax.while_ {m : Nat} (hp : PassesOwn (model X.prog X.w) X.A X.env X.xe) (S : Nat → Stt) (h0 : S 0 = (δ, as)) (ht : ∀ k, k < m → Dt X T (S k).1 c true) (hb : ∀ k, k < m → Axs X T i (S k).1 (S k).2 body (.nx (S (k + 1)).1 (S (k + 1)).2)) (hf : Dt X T (S m).1 c false) :
    Ax X T i δ as (.While c body [] pos) (.nx (S m).1 (S m).2) := fun H0 σ H E a q pins s I => by
  have e1 : (S 0).1 = δ := by rw [h0]
  have e2 : (S 0).2 = as := by rw [h0]
  refine (ps_while (X := X) hp pt_ev pss_ev).run pins s σ H E I ⟨fun r σ H => ∃ k, k + r = m ∧ Ac X T H0 i (S k).1 (S k).2 σ H, ⟨m, 0, Nat.zero_add _, by rw [e1, e2]; exact a⟩, fun r σ H w => ?_⟩
  obtain ⟨k, hk, ak⟩ := w
  by_cases ck : k < m
  · refine ak.tv (ht k ck) fun H' a' => ?_
    rw [if_pos rfl]
    exact ⟨fun σ' H2 => ∃ k', k' + (r - 1) = m ∧ k' = k + 1 ∧ Ac X T H0 i (S k').1 (S k').2 σ' H2, fun σ' H2 ⟨k', h1, _, a2⟩ => ⟨r - 1, by omega, k', h1, a2⟩, hb k ck H0 σ H' _ a' fun σ' H2 a2 => ⟨k + 1, by omega, rfl, a2⟩⟩
  · have e : k = m := by omega
    subst e
    refine ak.tv hf fun H' a' => ?_
    rw [if_neg (by decide)]
    exact q σ H' a'
/-- found, place = [], 0 -/
theorem Dr.startPar {n : Int} {u k1 k2 : Nat} {pt2 p4 : Pos} (hc : X.calm = true) (hN : X.N.Nodup) (hr : Axs X T i (δ.set j (some (.int n))) [] rest (.rt d)) (hδ : ∀ d, δ[i]? ≠ some (some d)) (ne : i ≠ j := by decide) (hi : X.N[i]? = some x := by rfl) (hj : X.N[j]? = some y := by rfl)
    (hx : X.env.scope.names.lookup x = some .local := by rfl) (hy : X.env.scope.names.lookup y = some .local := by rfl)
    (he : starEach [Expr.List [] p1, .Constant (.int n) u p4] X.env = (false, eval (.List [] p1) X.env) :: starEach [.Constant (.int n) u p4] X.env := by rfl) (he2 : starEach [Expr.Constant (.int n) u p4] X.env = (false, eval (.Constant (.int n) u p4) X.env) :: starEach [] X.env := by rfl)
    (hw : swappedStores [.Tuple [.Name x px, .Name y py] k1 pt] (.Tuple [.List [] p1, .Constant (.int n) u p4] k2 pt2) X.env = pure (some [x, y]) := by rfl)
    (hs : swapsWithSole [.Tuple [.Name x px, .Name y py] k1 pt] (.Tuple [.List [] p1, .Constant (.int n) u p4] k2 pt2) pos.line X.env = pure false := by rfl) :
    Dr X T δ (.Assign [.Tuple [.Name x px, .Name y py] k1 pt] (.Tuple [.List [] p1, .Constant (.int n) u p4] k2 pt2) pos :: rest) d :=
  Dr.of (pss_cons (ps_par hc hN hi hj ne hx hy (pa_cons (pe_lst pa_nil) (pa_cons pe_int pa_nil he2) he) hw hs) pss_ev) fun σ H D hl hd t q => ⟨by rw [sizeLine_eq]; decide, fun p hp => by
    have hh : hid (upd H p (.lst [])) p = H := by rw [hid_upd, hid_none hp]
    refine ⟨_, _, rfl, hr H _ _ D ⟨by rw [List.length_set, List.length_set]; exact hl, p, [], ?_, upd_same, .nil, ?_, by rw [hh]; exact Gw.refl t⟩ fun v H2 g2 d2 => q v H2 g2 d2⟩
    · rw [List.getElem?_set_ne (Ne.symm ne), List.getElem?_set_self (lt_of_ix hi hl)]
    · rw [hh]
      refine DS.set (fun k d0 hk => ?_) (by rw [List.length_set]; exact lt_of_ix hj hl) (.int n)
      have nk : i ≠ k := fun z => hδ d0 (by rw [z]; exact hk)
      rw [List.getElem?_set_ne nk]
      exact hd k d0 hk⟩
end
section
variable {X : Cx} {T : List (Addr × Str)} {δ : List (Option PyData)} {a b : Expr} {pos : Pos}
theorem Dt.eqI {x y : Int} (ha : De X T δ a (.int x)) (hb : De X T δ b (.int y)) : Dt X T δ (.Compare a [.Eq] [b] pos) (decide (x = y)) :=
  Dt.of (pt_cmpR op_eq pe_ev pe_ev (nomark _)) fun σ H Q hl hd t q => ha.go hl hd t fun v H1 g1 d1 => hb.go hl (hd.gw g1) g1.2 fun u H2 g2 d2 => by
    cases d1
    cases d2
    have e : decide (V.int x = V.int y) = decide (x = y) := by simp
    refine ⟨rfl, _, rfl, ?_⟩
    rw [e]
    exact q _ (g1.trans g2)
end
end LB
end
section
set_option autoImplicit false
set_option Elab.async false
set_option linter.all false
set_option maxRecDepth 100000
set_option maxHeartbeats 4000000
/-! Walks: rising_places. -/
namespace LB
open PySem PySem.Spec PySem.W PyProof.Rows L2 LamX
def forBody : Stmt → List Stmt
  | .For _ _ b _ _ => b
  | _ => []
def plD : Option (List Nat) → PyData
  | none => .none
  | some ps => .tuple (ps.map fun p => .int (p : Nat))
def RHold (n : Nat) (ds : List PyData) (d : PyData) : Prop := ∃ (s : S) (v u : PyData), ds = [s.enc, v, u] ∧ LB.T s v ∧ LB.T s u ∧ dep s ≤ n ∧ d = .bool (hB s v u)
def RRis (n : Nat) (ds : List PyData) (d : PyData) : Prop := ∃ (a : S) (vs us : List PyData), ds = [a.enc, .tuple vs, .tuple us] ∧ vs.length ≤ 3 ∧ us.length ≤ 3 ∧ (∀ v ∈ vs, LB.T a v) ∧ (∀ u ∈ us, LB.T a u) ∧ dep a ≤ n ∧ d = plD (risM (rowsOf a vs us))
section
variable {X : Cx} {T : List (Addr × Str)} {i j : Nat} {δ : List (Option PyData)} {as : List PyData} {pos : Pos} {x : Str}
theorem Ax.incN {k : Nat} {u : Nat} {p2 pos' : Pos} (hN : X.N.Nodup) (hd : δ[j]? = some (some (.int (k : Nat))) := by rfl) (ne : j ≠ i := by decide) (hi : X.N[j]? = some x := by rfl) (hx : Loc X.env.scope x := by first | exact Or.inl rfl | exact Or.inr rfl)
    (hf : X.fn x = true ∨ X.env.scope.names.lookup x = some .local := by first | exact .inl rfl | exact .inr rfl) : Ax X T i δ as (.AugAssign (.Name x pos') .Add (.Constant (.int 1) u p2) pos) (.nx (δ.set j (some (.int ((k + 1 : Nat) : Int)))) as) := by
  have z := Ax.inc (X := X) (T := T) (i := i) (as := as) (n := 1) (u := u) (p2 := p2) (pos' := pos') (pos := pos) hN hd ne hi hx hf
  exact z
end
section
variable {P : Program} {w : World} {K : PySem.W.Frag} {mg : Str → Option Value} {base : Heap} {T : List (Addr × Str)} {f : Addr} {fd : FuncData}
abbrev sRis : Stmt := top 39
theorem sc_ris : FnScope ["sort", "v", "u", "found", "place", "one"] ["sort", "v", "u"] (defScope sRis) := ⟨rfl, rfl, rfl, by decide +kernel, rfl, by decide +kernel, by decide +kernel⟩
theorem w_ris {n k : Nat} (F : Fun K "rising_places" "rising_places" sRis f fd) (hm : mg "rising_places" = some (.ref f)) (hb : Binds K fd ["sort", "v", "u"] []) (G : Gb w mg K) (FH : Fd P w K mg base T k "raw_holds" (RHold n)) : Fd P w K mg base T (k + 1) "rising_places" (RRis n) := by
  refine Fd.mk (m := 3) F hm hb sc_ris (fun ds d ⟨_, _, _, e, _⟩ => by rw [e]; rfl) fun cdv A outer s H E ds d hr ⟨a, vs, us, e1, hv3, hu3, hv, hu, hn, e2⟩ => ?_
  subst e1 e2
  have hfr := G.fr
  let rows := rowsOf a vs us
  let dl : Nat → Option PyData → List (Option PyData) := fun p o => [some a.enc, some (.tuple vs), some (.tuple us), none, some (.int (p : Nat)), o]
  let S : Nat → Stt := fun k => (dl (plR rows 0 k) none, ((preR rows 0).take k).map fun p => .int (p : Nat))
  have rl : rows.length = us.length := by show (us.map _).length = _; rw [List.length_map]
  have pl := preR_len rows 0
  refine Dr.startPar (i := 3) (j := 4) rfl sc_ris.nd ?_ (fun d h => by cases h)
  show Axs _ T 3 (dl 0 none) [] _ _
  have wh : ∀ (p m : Nat) (u : PyData) (as : List PyData), u ∈ us → p + m ≤ vs.length → (∀ x, p ≤ x → x < p + m → hB a (vs.getD x .none) u = false) → (p + m < vs.length → hB a (vs.getD (p + m) .none) u = true) →
      Ax (cxOf CX0 P w K mg base ["sort", "v", "u", "found", "place", "one"] "rising_places" (defScope sRis) f cdv A outer s H E).nox T 3 (dl p (some u)) as ((forBody ((defBody sRis).getD 1 (.Pass ⟨0, 0, 0, 0⟩))).getD 0 (.Pass ⟨0, 0, 0, 0⟩)) (.nx (dl (p + m) (some u)) as) := by
    intro p m u as hmu hle hno hyes
    refine Ax.while_ (m := m) PassesOwn.never (fun k => (dl (p + k) (some u), as)) rfl (fun k hk => ?_) (fun k hk => ?_) ?_
    · have hlt : p + k < vs.length := by omega
      have hg := hno (p + k) (by omega) (by omega)
      rw [List.getD_eq_getElem?_getD, List.getElem?_eq_getElem hlt] at hg
      refine Dt.w (Dw.andT (Dt.cast (Dt.ltI (dv 4 (d := .int ((p + k : Nat) : Int))) (De.len hfr (dv 1 (d := .tuple vs)))) (decide_eq_true (by exact_mod_cast hlt))) (Dw.and1 (Dt.not (b := false) (Dt.val (De.cast (De.call FH hr (Da.cons (dv 0 (d := a.enc)) (Da.cons (De.ixT (k := p + k) (d := vs[p + k]) (dv 1 (d := .tuple vs)) (dv 4 (d := .int ((p + k : Nat) : Int))) (List.getElem?_eq_getElem hlt)) (Da.cons (dv 5 (d := u)) Da.nil)))
        ⟨a, vs[p + k], u, rfl, hv _ (List.getElem_mem hlt), hu u hmu, hn, rfl⟩) (congrArg PyData.bool hg))))))
    · exact Axs.cons (Ax.incN (j := 4) (k := p + k) sc_ris.nd) Axs.nil
    · by_cases hlt : p + m < vs.length
      · have hg := hyes hlt
        rw [List.getD_eq_getElem?_getD, List.getElem?_eq_getElem hlt] at hg
        exact Dt.w (Dw.andT (Dt.cast (Dt.ltI (dv 4 (d := .int ((p + m : Nat) : Int))) (De.len hfr (dv 1 (d := .tuple vs)))) (decide_eq_true (by exact_mod_cast hlt))) (Dw.and1 (Dt.not (b := true) (Dt.val (De.cast (De.call FH hr (Da.cons (dv 0 (d := a.enc)) (Da.cons (De.ixT (k := p + m) (d := vs[p + m]) (dv 1 (d := .tuple vs)) (dv 4 (d := .int ((p + m : Nat) : Int))) (List.getElem?_eq_getElem hlt)) (Da.cons (dv 5 (d := u)) Da.nil)))
          ⟨a, vs[p + m], u, rfl, hv _ (List.getElem_mem hlt), hu u hmu, hn, rfl⟩) (congrArg PyData.bool hg))))))
      · exact Dt.w (Dw.andF (Dt.cast (Dt.ltI (dv 4 (d := .int ((p + m : Nat) : Int))) (De.len hfr (dv 1 (d := .tuple vs)))) (decide_eq_false (by omega))))
  have rowAt : ∀ (k : Nat) (u : PyData), us[k]? = some u → rows[k]? = some ((List.range vs.length).filter fun p => hB a (vs.getD p .none) u) := fun k u hk => by
    show (us.map _)[k]? = _
    rw [List.getElem?_map, hk]
    rfl
  have plLe : ∀ k, k ≤ (preR rows 0).length → k < us.length → plR rows 0 k ≤ vs.length := by
    intro k hk hk2
    cases k with
    | zero => exact Nat.zero_le _
    | succ k =>
      have hk3 : k < us.length := by omega
      have z := (step_some (preR_step (p := 0) (rowAt k _ (List.getElem?_eq_getElem hk3)) (by omega))).1
      exact z
  have turn : ∀ (k : Nat) (u : PyData), k < (preR rows 0).length → us[k]? = some u → Axs (cxOf CX0 P w K mg base ["sort", "v", "u", "found", "place", "one"] "rising_places" (defScope sRis) f cdv A outer s H E).nox T 3 ((S k).1.set 5 (some u)) (S k).2 (forBody ((defBody sRis).getD 1 (.Pass ⟨0, 0, 0, 0⟩))) (.nx (S (k + 1)).1 (S (k + 1)).2) := by
    intro k u hk hku
    have st := preR_step (p := 0) (rowAt k u hku) hk
    obtain ⟨h1, h2, h3, h4⟩ := step_some st
    have eq : (preR rows 0).getD k 0 = plR rows 0 k + ((preR rows 0).getD k 0 - plR rows 0 k) := by omega
    have wq := wh (plR rows 0 k) ((preR rows 0).getD k 0 - plR rows 0 k) u (S k).2 (List.mem_of_getElem? hku) (by omega) (fun x hx hx2 => h4 x hx (by omega)) (fun _ => by rw [← eq]; exact h2)
    rw [← eq] at wq
    have ek : (S (k + 1)).2 = (S k).2 ++ [.int (((preR rows 0).getD k 0 : Nat) : Int)] := by
      show ((preR rows 0).take (k + 1)).map _ = ((preR rows 0).take k).map _ ++ [_]
      rw [List.take_add_one, List.map_append, List.getD_eq_getElem?_getD, List.getElem?_eq_getElem hk]
      rfl
    rw [ek]
    refine Axs.cons wq (Axs.cons (Ax.ifF (Dt.cast (Dt.eqI (dv 4 (d := .int (((preR rows 0).getD k 0 : Nat) : Int))) (De.len hfr (dv 1 (d := .tuple vs)))) (decide_eq_false (by omega)))) (Axs.cons (Ax.app (dv 4 (d := .int (((preR rows 0).getD k 0 : Nat) : Int))) ?_) (Axs.weak (Axs.cons (Ax.incN (j := 4) (k := (preR rows 0).getD k 0) sc_ris.nd) Axs.nil) ?_)))
    · show (((preR rows 0).take k).map _).length < 1000
      rw [List.length_map]
      have := List.length_take_le k (preR rows 0)
      omega
    · exact Sub.tl (Sub.tl (Sub.tl (Sub.tl (Sub.tl (Sub.no Sub.ni)))))
  by_cases hall : (preR rows 0).length = us.length
  · have er : risM rows = some (preR rows 0) := by
      unfold risM
      rw [if_pos (hall.trans rl.symm)]
    refine Axs.cons (Ax.for_ (j := 5) (n := (preR rows 0).length) (ds := us) PassesOwn.never rfl S rfl (.inl (dv 2 (d := .tuple us))) (by omega) turn (.inl ⟨hall, rfl⟩) (hg := pg_name sc_ris.nd rfl (Or.inl rfl))) (Axs.rt ?_)
    show Ax _ T 3 _ (((preR rows 0).take (preR rows 0).length).map fun p => .int (p : Nat)) _ (.rt (plD (risM rows)))
    rw [er, List.take_length]
    exact Ax.retT hfr
  · have hlt : (preR rows 0).length < us.length := by omega
    have er : risM rows = none := by
      unfold risM
      rw [if_neg (fun z => hall (z.trans rl))]
    have hku : us[(preR rows 0).length]? = some (us[(preR rows 0).length]) := List.getElem?_eq_getElem hlt
    have st := step_none (preR_stop (p := 0) (rowAt _ _ hku))
    have ple := plLe _ (Nat.le_refl _) hlt
    have eq : vs.length = plR rows 0 (preR rows 0).length + (vs.length - plR rows 0 (preR rows 0).length) := by omega
    have wq := wh (plR rows 0 (preR rows 0).length) (vs.length - plR rows 0 (preR rows 0).length) (us[(preR rows 0).length]) (S (preR rows 0).length).2 (List.getElem_mem hlt) (by omega) (fun x hx hx2 => st x hx (by omega)) (fun z => by omega)
    rw [← eq] at wq
    refine Axs.rt (Ax.for_ (j := 5) (n := (preR rows 0).length) (ds := us) PassesOwn.never rfl S rfl (.inl (dv 2 (d := .tuple us))) (by omega) turn (.inr ⟨_, hku, .inl ⟨_, rfl, ?_⟩⟩) (hg := pg_name sc_ris.nd rfl (Or.inl rfl)))
    show Axs _ T 3 _ _ _ (.rt (plD (risM rows)))
    rw [er]
    exact Axs.cons wq (Axs.rt (Ax.ifT (Dt.cast (Dt.eqI (dv 4 (d := .int ((vs.length : Nat) : Int))) (De.len hfr (dv 1 (d := .tuple vs)))) (decide_eq_true rfl)) (Axs.rt (Ax.ret De.non))))
end
end LB
end
section
set_option autoImplicit false
set_option Elab.async false
set_option linter.all false
set_option maxRecDepth 100000
set_option maxHeartbeats 4000000
/-! Walks: raw_places, raw_holds, holds, places. -/
namespace LB
open PySem PySem.Spec PySem.W PyProof.Rows L2 LamX
def RUnl (n : Nat) (ds : List PyData) (d : PyData) : Prop := ∃ (a : S) (vs us : List PyData), ds = [a.enc, .tuple vs, .tuple us] ∧ vs.length ≤ 3 ∧ us.length ≤ 3 ∧ (∀ v ∈ vs, LB.T a v) ∧ (∀ u ∈ us, LB.T a u) ∧ dep a ≤ n ∧ d = plD ((unlikeM (rowsOf a vs us)).getD none)
def isRow : S → Bool
  | .lane _ => true
  | .heap _ => true
  | _ => false
def RPl (n : Nat) (ds : List PyData) (d : PyData) : Prop := ∃ (s : S) (v u : PyData), ds = [s.enc, v, u] ∧ isRow s = true ∧ LB.T s v ∧ LB.T s u ∧ dep s ≤ n + 1 ∧ d = plD (placesM s v u)
theorem hB_mark {ls : List Str} {x y : Str} : hB (.mark ls) (.str x) (.str y) = decide (x = y) := by
  rw [Bool.eq_iff_iff, hB_iff, decide_eq_true_iff]
  exact ⟨fun h => by cases h; rfl, fun h => by subst h; rfl⟩
theorem hB_count {m n : Int} : hB .count (.int m) (.int n) = decide (m ≥ n) := by
  rw [Bool.eq_iff_iff, hB_iff, decide_eq_true_iff]
  exact ⟨fun ⟨a, b, h1, h2, h⟩ => by cases h1; cases h2; exact h, fun h => ⟨m, n, rfl, rfl, h⟩⟩
theorem hB_both {a b : S} {x y x' y' : PyData} : hB (.both a b) (.tuple [x, y]) (.tuple [x', y']) = (hB a x x' && hB b y y') := by
  rw [Bool.eq_iff_iff, hB_iff, Bool.and_eq_true, hB_iff, hB_iff]
  exact ⟨fun ⟨_, _, _, _, h1, h2, h3, h4⟩ => by cases h1; cases h2; exact ⟨h3, h4⟩, fun ⟨h3, h4⟩ => ⟨_, _, _, _, rfl, rfl, h3, h4⟩⟩
theorem hB_ll {a b : S} {x y : PyData} : hB (.either a b) (.tuple [.str sL, x]) (.tuple [.str sL, y]) = hB a x y := by
  rw [Bool.eq_iff_iff, hB_iff, hB_iff]
  refine ⟨fun h => ?_, fun h => .inl ⟨_, _, rfl, rfl, h⟩⟩
  rcases h with ⟨_, _, h1, h2, h⟩ | ⟨_, _, h1, h2, h⟩
  · cases h1; cases h2; exact h
  · injection h1 with h1; injection h1 with h1; injection h1 with h1; exact absurd h1 nLR
theorem hB_rr {a b : S} {x y : PyData} : hB (.either a b) (.tuple [.str sR, x]) (.tuple [.str sR, y]) = hB b x y := by
  rw [Bool.eq_iff_iff, hB_iff, hB_iff]
  refine ⟨fun h => ?_, fun h => .inr ⟨_, _, rfl, rfl, h⟩⟩
  rcases h with ⟨_, _, h1, h2, h⟩ | ⟨_, _, h1, h2, h⟩
  · injection h1 with h1; injection h1 with h1; injection h1 with h1; exact absurd h1 nRL
  · cases h1; cases h2; exact h
theorem hB_lr {a b : S} {x y : PyData} : hB (.either a b) (.tuple [.str sL, x]) (.tuple [.str sR, y]) = false := by
  rw [Bool.eq_false_iff]
  intro h
  rcases hB_iff.mp h with ⟨_, _, h1, h2, h⟩ | ⟨_, _, h1, h2, h⟩
  · injection h2 with h2; injection h2 with h2; injection h2 with h2; exact absurd h2 nRL
  · injection h1 with h1; injection h1 with h1; injection h1 with h1; exact absurd h1 nLR
theorem hB_rl {a b : S} {x y : PyData} : hB (.either a b) (.tuple [.str sR, x]) (.tuple [.str sL, y]) = false := by
  rw [Bool.eq_false_iff]
  intro h
  rcases hB_iff.mp h with ⟨_, _, h1, h2, h⟩ | ⟨_, _, h1, h2, h⟩
  · injection h1 with h1; injection h1 with h1; injection h1 with h1; exact absurd h1 nRL
  · injection h2 with h2; injection h2 with h2; injection h2 with h2; exact absurd h2 nLR
theorem isN_pl (o : Option (List Nat)) : (!LB.isN (plD o)) = o.isSome := by cases o <;> rfl
section
variable {P : Program} {w : World} {K : PySem.W.Frag} {mg : Str → Option Value} {base : Heap} {T : List (Addr × Str)} {f : Addr} {fd : FuncData}
abbrev sPl : Stmt := top 43
theorem sc_pl : FnScope ["sort", "v", "u"] ["sort", "v", "u"] (defScope sPl) := ⟨rfl, rfl, rfl, by decide +kernel, rfl, by decide +kernel, by decide +kernel⟩
theorem w_pl {n k : Nat} (F : Fun K "raw_places" "raw_places" sPl f fd) (hm : mg "raw_places" = some (.ref f)) (hb : Binds K fd ["sort", "v", "u"] []) (FR : Fd P w K mg base T k "rising_places" (RRis n)) (FU : Fd P w K mg base T k "unlike_places" (RUnl n)) : Fd P w K mg base T (k + 1) "raw_places" (RPl n) := by
  refine Fd.mk (m := 0) F hm hb sc_pl (fun ds d ⟨_, _, _, e, _⟩ => by rw [e]; rfl) fun cdv A outer s H E ds d hr ⟨s, v, u, e1, hi, hv, hu, hn, e2⟩ => ?_
  subst e1 e2
  cases s with
  | lane a =>
    obtain ⟨vs, rfl, hv3, hv⟩ := hv
    obtain ⟨us, rfl, hu3, hu⟩ := hu
    have da := d_l (a := a)
    exact Dr.ret (De.ifT (Dt.kindIs (k := kLane) (s := .lane a) (dv 0)) (De.call FR hr (Da.cons (De.ixT (k := 1) (d := a.enc) (De.enc (s := .lane a) (dv 0)) De.int rfl) (Da.cons (dv 1 (d := .tuple vs)) (Da.cons (dv 2 (d := .tuple us)) Da.nil))) ⟨a, vs, us, rfl, hv3, hu3, hv, hu, by omega, rfl⟩))
  | heap a =>
    obtain ⟨vs, rfl, hv3, hv, _⟩ := hv
    obtain ⟨us, rfl, hu3, hu, _⟩ := hu
    have da := d_h (a := a)
    exact Dr.ret (De.ifF (Dt.kindIs (k := kHeap) (s := .heap a) (dv 0)) (De.call FU hr (Da.cons (De.ixT (k := 1) (d := a.enc) (De.enc (s := .heap a) (dv 0)) De.int rfl) (Da.cons (dv 1 (d := .tuple vs)) (Da.cons (dv 2 (d := .tuple us)) Da.nil))) ⟨a, vs, us, rfl, hv3, hu3, hv, hu, by omega, rfl⟩))
  | _ => cases hi
theorem places_iff {s : S} {v u : PyData} (hi : isRow s = true) (hv : LB.T s v) (hu : LB.T s u) : (placesM s v u).isSome = hB s v u := by
  cases s with
  | lane a =>
    obtain ⟨vs, rfl, hv3, hv⟩ := hv
    obtain ⟨us, rfl, hu3, hu⟩ := hu
    exact (places_lane hv3 hu3).1
  | heap a =>
    obtain ⟨vs, rfl, hv3, hv, _⟩ := hv
    obtain ⟨us, rfl, hu3, hu, _⟩ := hu
    exact (places_heap hv3 hu3).2.1
  | _ => cases hi
abbrev sHold : Stmt := top 44
theorem sc_hold : FnScope ["sort", "v", "u", "kind"] ["sort", "v", "u"] (defScope sHold) := ⟨rfl, rfl, rfl, by decide +kernel, rfl, by decide +kernel, by decide +kernel⟩
theorem w_hold {fR fP : Addr} {fdR fdP : FuncData} (F : Fun K "raw_holds" "raw_holds" sHold f fd) (hm : mg "raw_holds" = some (.ref f)) (hb : Binds K fd ["sort", "v", "u"] []) (FR : Fun K "rising_places" "rising_places" sRis fR fdR) (hmR : mg "rising_places" = some (.ref fR)) (hbR : Binds K fdR ["sort", "v", "u"] [])
    (FP : Fun K "raw_places" "raw_places" sPl fP fdP) (hmP : mg "raw_places" = some (.ref fP)) (hbP : Binds K fdP ["sort", "v", "u"] []) (G : Gb w mg K) (U : ∀ n k, 20 ≤ k → Fd P w K mg base T k "raw_holds" (RHold n) → Fd P w K mg base T (k + 1) "unlike_places" (RUnl n)) : ∀ n, Fd P w K mg base T (3 * n + 20) "raw_holds" (RHold n)
  | 0 => Fd.void F hm hb sc_hold fun ds d ⟨s, _, _, _, _, _, h, _⟩ => by have := dep_pos s; omega
  | n + 1 => by
    have IH := w_hold F hm hb FR hmR hbR FP hmP hbP G U n
    have IP := w_pl FP hmP hbP (w_ris FR hmR hbR G IH) (U n _ (by omega) IH)
    show Fd P w K mg base T ((3 * n + 20 + 1 + 1) + 1) _ _
    refine Fd.mk (m := 1) F hm hb sc_hold (fun ds d ⟨_, _, _, e, _⟩ => by rw [e]; rfl) fun cdv A outer s H E ds d hr ⟨s, v, u, e1, hv, hu, hn, e2⟩ => ?_
    subst e1 e2
    have hfr := G.fr
    refine Dr.next (Dn1.set (i := 3) sc_hold.nd (De.kind (s := s) (dv 0))) ?_
    cases s with
    | mark ls =>
      obtain ⟨x, _, rfl⟩ := hv
      obtain ⟨y, _, rfl⟩ := hu
      exact Dr.ifT (Dt.isS (x := kMark) (dv 3)) (Dr.ret (De.cast (De.eqS (dv 1 (d := .str x)) (dv 2 (d := .str y))) (congrArg PyData.bool hB_mark.symm)))
    | count =>
      obtain ⟨m, _, rfl⟩ := hv
      obtain ⟨m2, _, rfl⟩ := hu
      exact Dr.ifF (Dt.isS (x := kCount) (dv 3)) (Dr.ifT (Dt.isS (x := kCount) (dv 3)) (Dr.ret (De.cast (De.geI (dv 1 (d := .int (m : Nat))) (dv 2 (d := .int (m2 : Nat)))) (congrArg PyData.bool hB_count.symm))))
    | both a b =>
      obtain ⟨x, y, rfl, hx, hy⟩ := hv
      obtain ⟨x', y', rfl, hx', hy'⟩ := hu
      have da := d_b1 (a := a) (b := b)
      have db := d_b2 (a := a) (b := b)
      refine Dr.ifF (Dt.isS (x := kBoth) (dv 3)) (Dr.ifF (Dt.isS (x := kBoth) (dv 3)) (Dr.ifT (Dt.isS (x := kBoth) (dv 3)) (Dr.ret ?_)))
      rw [hB_both]
      cases h1 : hB a x x' with
      | false =>
        show De _ T _ _ (.bool false)
        exact De.andF (De.cast (De.call IH (hr.mono (by omega)) (Da.cons (De.ixT (k := 1) (d := a.enc) (De.enc (s := .both a b) (dv 0)) De.int rfl) (Da.cons (De.ixT (k := 0) (d := x) (dv 1 (d := .tuple [x, y])) De.int rfl) (Da.cons (De.ixT (k := 0) (d := x') (dv 2 (d := .tuple [x', y'])) De.int rfl) Da.nil))) ⟨a, x, x', rfl, hx, hx', by omega, rfl⟩) (congrArg PyData.bool h1))
      | true =>
        show De _ T _ _ (.bool (hB b y y'))
        exact De.andT (De.cast (De.call IH (hr.mono (by omega)) (Da.cons (De.ixT (k := 1) (d := a.enc) (De.enc (s := .both a b) (dv 0)) De.int rfl) (Da.cons (De.ixT (k := 0) (d := x) (dv 1 (d := .tuple [x, y])) De.int rfl) (Da.cons (De.ixT (k := 0) (d := x') (dv 2 (d := .tuple [x', y'])) De.int rfl) Da.nil))) ⟨a, x, x', rfl, hx, hx', by omega, rfl⟩) (congrArg PyData.bool h1))
          (De.one (De.call IH (hr.mono (by omega)) (Da.cons (De.ixT (k := 2) (d := b.enc) (De.enc (s := .both a b) (dv 0)) De.int rfl) (Da.cons (De.ixT (k := 1) (d := y) (dv 1 (d := .tuple [x, y])) De.int rfl) (Da.cons (De.ixT (k := 1) (d := y') (dv 2 (d := .tuple [x', y'])) De.int rfl) Da.nil))) ⟨b, y, y', rfl, hy, hy', by omega, rfl⟩))
    | either a b =>
      have da := d_e1 (a := a) (b := b)
      have db := d_e2 (a := a) (b := b)
      refine Dr.ifF (Dt.isS (x := kEither) (dv 3)) (Dr.ifF (Dt.isS (x := kEither) (dv 3)) (Dr.ifF (Dt.isS (x := kEither) (dv 3)) (Dr.ifT (Dt.isS (x := kEither) (dv 3)) (Dr.ret ?_))))
      rcases hv with ⟨x, rfl, hx⟩ | ⟨x, rfl, hx⟩ <;> rcases hu with ⟨y, rfl, hy⟩ | ⟨y, rfl, hy⟩
      · rw [hB_ll]
        exact De.andT (De.cast (De.eqS (De.ixT (k := 0) (d := .str sL) (dv 1 (d := .tuple [.str sL, x])) De.int rfl) (De.ixT (k := 0) (d := .str sL) (dv 2 (d := .tuple [.str sL, y])) De.int rfl)) rfl)
          (De.one (De.call IH (hr.mono (by omega)) (Da.cons (De.ixT (k := 1) (d := a.enc) (De.enc (s := .either a b) (dv 0)) (De.cast (De.add De.int (De.side (k := 0) G (by decide) (De.ixT (k := 0) (d := .str sL) (dv 1 (d := .tuple [.str sL, x])) De.int rfl))) rfl) rfl) (Da.cons (De.ixT (k := 1) (d := x) (dv 1 (d := .tuple [.str sL, x])) De.int rfl) (Da.cons (De.ixT (k := 1) (d := y) (dv 2 (d := .tuple [.str sL, y])) De.int rfl) Da.nil))) ⟨a, x, y, rfl, hx, hy, by omega, rfl⟩))
      · rw [hB_lr]
        exact De.andF (De.cast (De.eqS (De.ixT (k := 0) (d := .str sL) (dv 1 (d := .tuple [.str sL, x])) De.int rfl) (De.ixT (k := 0) (d := .str sR) (dv 2 (d := .tuple [.str sR, y])) De.int rfl)) (congrArg PyData.bool (by decide +kernel)))
      · rw [hB_rl]
        exact De.andF (De.cast (De.eqS (De.ixT (k := 0) (d := .str sR) (dv 1 (d := .tuple [.str sR, x])) De.int rfl) (De.ixT (k := 0) (d := .str sL) (dv 2 (d := .tuple [.str sL, y])) De.int rfl)) (congrArg PyData.bool (by decide +kernel)))
      · rw [hB_rr]
        exact De.andT (De.cast (De.eqS (De.ixT (k := 0) (d := .str sR) (dv 1 (d := .tuple [.str sR, x])) De.int rfl) (De.ixT (k := 0) (d := .str sR) (dv 2 (d := .tuple [.str sR, y])) De.int rfl)) rfl)
          (De.one (De.call IH (hr.mono (by omega)) (Da.cons (De.ixT (k := 2) (d := b.enc) (De.enc (s := .either a b) (dv 0)) (De.cast (De.add De.int (De.side (k := 1) G (by decide) (De.ixT (k := 0) (d := .str sR) (dv 1 (d := .tuple [.str sR, x])) De.int rfl))) rfl) rfl) (Da.cons (De.ixT (k := 1) (d := x) (dv 1 (d := .tuple [.str sR, x])) De.int rfl) (Da.cons (De.ixT (k := 1) (d := y) (dv 2 (d := .tuple [.str sR, y])) De.int rfl) Da.nil))) ⟨b, x, y, rfl, hx, hy, by omega, rfl⟩))
    | lane a =>
      refine Dr.ifF (Dt.isS (x := kLane) (dv 3)) (Dr.ifF (Dt.isS (x := kLane) (dv 3)) (Dr.ifF (Dt.isS (x := kLane) (dv 3)) (Dr.ifF (Dt.isS (x := kLane) (dv 3)) (Dr.ret (De.cast (De.notN (De.call IP hr (Da.cons (dv 0 (d := (S.lane a).enc)) (Da.cons (dv 1 (d := v)) (Da.cons (dv 2 (d := u)) Da.nil))) ⟨_, v, u, rfl, rfl, hv, hu, hn, rfl⟩)) ?_)))))
      rw [isN_pl, places_iff rfl hv hu]
    | heap a =>
      refine Dr.ifF (Dt.isS (x := kHeap) (dv 3)) (Dr.ifF (Dt.isS (x := kHeap) (dv 3)) (Dr.ifF (Dt.isS (x := kHeap) (dv 3)) (Dr.ifF (Dt.isS (x := kHeap) (dv 3)) (Dr.ret (De.cast (De.notN (De.call IP hr (Da.cons (dv 0 (d := (S.heap a).enc)) (Da.cons (dv 1 (d := v)) (Da.cons (dv 2 (d := u)) Da.nil))) ⟨_, v, u, rfl, rfl, hv, hu, hn, rfl⟩)) ?_)))))
      rw [isN_pl, places_iff rfl hv hu]
end
end LB
end
section
set_option autoImplicit false
set_option Elab.async false
set_option linter.all false
set_option maxRecDepth 100000
set_option maxHeartbeats 4000000
/-! Walks: holds, places. -/
namespace LB
open PySem PySem.Spec PySem.W PyProof.Rows L2 LamX
section
variable {X : Cx} {T : List (Addr × Str)} {δ : List (Option PyData)} {a b : Expr} {pos : Pos}
theorem Dt.notInT {z : Str} {zs : List Str} (ha : De X T δ a (.str z)) (hb : De X T δ b (.tuple (zs.map .str))) (hm : behindInMarks .NotIn b = false := by with_unfolding_all rfl) : Dt X T δ (.Compare a [.NotIn] [b] pos) (!inS z zs) :=
  Dt.of (pt_cmpR op_notIn_seq pe_ev pe_ev hm) fun σ H Q hl hd t q => ha.go hl hd t fun x H1 g1 d1 => hb.go hl (hd.gw g1) g1.2 fun y H2 g2 d2 => by
    cases d1
    cases d2 with
    | tup hs hv => exact ⟨_, zs.map V.str, rfl, .inr (by rw [← strs_of hv]; exact hs), rfl, L2.flat_strs zs, _, rfl, by
        have z := q _ (g1.trans g2)
        unfold inS at z
        first | exact z | (simp only [Bool.xor_true, Bool.true_xor]; exact z)⟩
end
section
variable {P : Program} {w : World} {K : PySem.W.Frag} {mg : Str → Option Value} {base : Heap} {T : List (Addr × Str)} {f : Addr} {fd : FuncData}
/-- a sort and two values of it -/
def RS2 (ok : S → Bool) (res : S → PyData → PyData → PyData) (ds : List PyData) (d : PyData) : Prop := ∃ (s : S) (v u : PyData), ds = [s.enc, v, u] ∧ Good s ∧ ok s = true ∧ LB.T s v ∧ LB.T s u ∧ d = res s v u
noncomputable def holdsD (s : S) (v u : PyData) : PyData := .bool (hB s v u)
noncomputable def placesD (s : S) (v u : PyData) : PyData := plD (placesM s v u)
abbrev sHolds : Stmt := top 45
theorem sc_holds : FnScope ["sort", "v", "u"] ["sort", "v", "u"] (defScope sHolds) := ⟨rfl, rfl, rfl, by decide +kernel, rfl, by decide +kernel, by decide +kernel⟩
theorem w_holds (F : Fun K "holds" "holds" sHolds f fd) (hm : mg "holds" = some (.ref f)) (hb : Binds K fd ["sort", "v", "u"] []) (FC : Fd P w K mg base T 10 "check_sort" RCheck) (FN : Fd P w K mg base T 21 "need_value" (RSV fun _ _ => .none)) (FH : Fd P w K mg base T 35 "raw_holds" (RHold 5)) : Fd P w K mg base T 36 "holds" (RS2 (fun _ => true) holdsD) := by
  refine Fd.mk (m := 0) F hm hb sc_holds (fun ds d ⟨_, _, _, e, _⟩ => by rw [e]; rfl) fun cdv A outer s H E ds d hr ⟨s, v, u, e1, g, _, hv, hu, e2⟩ => ?_
  subst e1 e2
  exact Dr.next (Dn1.expr (De.call (FC.mono (by decide)) hr (Da.cons (dv 0 (d := s.enc)) Da.nil) ⟨⟨s, rfl, g⟩, rfl⟩)) (Dr.next (Dn1.expr (De.call (FN.mono (by decide)) hr (Da.cons (dv 0 (d := s.enc)) (Da.cons (dv 1 (d := v)) Da.nil)) ⟨s, v, rfl, g, hv, rfl⟩))
    (Dr.next (Dn1.expr (De.call (FN.mono (by decide)) hr (Da.cons (dv 0 (d := s.enc)) (Da.cons (dv 2 (d := u)) Da.nil)) ⟨s, u, rfl, g, hu, rfl⟩)) (Dr.ret (De.call FH hr (Da.cons (dv 0 (d := s.enc)) (Da.cons (dv 1 (d := v)) (Da.cons (dv 2 (d := u)) Da.nil))) ⟨s, v, u, rfl, hv, hu, g.dp, rfl⟩))))
abbrev sPlaces : Stmt := top 46
theorem sc_places : FnScope ["sort", "v", "u"] ["sort", "v", "u"] (defScope sPlaces) := ⟨rfl, rfl, rfl, by decide +kernel, rfl, by decide +kernel, by decide +kernel⟩
theorem row_kind {s : S} (h : isRow s = true) : inS (kindS s) ["lane", "heap"] = true := by
  cases s with
  | lane a => show inS kLane _ = true; decide +kernel
  | heap a => show inS kHeap _ = true; decide +kernel
  | _ => cases h
theorem w_places (F : Fun K "places" "places" sPlaces f fd) (hm : mg "places" = some (.ref f)) (hb : Binds K fd ["sort", "v", "u"] []) (FC : Fd P w K mg base T 10 "check_sort" RCheck) (FN : Fd P w K mg base T 21 "need_value" (RSV fun _ _ => .none)) (FP : Fd P w K mg base T 34 "raw_places" (RPl 4)) : Fd P w K mg base T 35 "places" (RS2 isRow placesD) := by
  refine Fd.mk (m := 0) F hm hb sc_places (fun ds d ⟨_, _, _, e, _⟩ => by rw [e]; rfl) fun cdv A outer s H E ds d hr ⟨s, v, u, e1, g, hi, hv, hu, e2⟩ => ?_
  subst e1 e2
  exact Dr.next (Dn1.expr (De.call (FC.mono (by decide)) hr (Da.cons (dv 0 (d := s.enc)) Da.nil) ⟨⟨s, rfl, g⟩, rfl⟩)) (Dr.ifF (Dt.cast (Dt.notInT (zs := ["lane", "heap"]) (De.kind (s := s) (dv 0)) (De.tup (Da.cons De.str (Da.cons De.str Da.nil)))) (by rw [row_kind hi]; rfl)) (Dr.next (Dn1.expr (De.call (FN.mono (by decide)) hr (Da.cons (dv 0 (d := s.enc)) (Da.cons (dv 1 (d := v)) Da.nil)) ⟨s, v, rfl, g, hv, rfl⟩))
    (Dr.next (Dn1.expr (De.call (FN.mono (by decide)) hr (Da.cons (dv 0 (d := s.enc)) (Da.cons (dv 2 (d := u)) Da.nil)) ⟨s, u, rfl, g, hu, rfl⟩)) (Dr.ret (De.call FP hr (Da.cons (dv 0 (d := s.enc)) (Da.cons (dv 1 (d := v)) (Da.cons (dv 2 (d := u)) Da.nil))) ⟨s, v, u, rfl, hi, hv, hu, g.dp, rfl⟩)))))
end
end LB
end
section
set_option autoImplicit false
set_option Elab.async false
set_option linter.all false
set_option maxRecDepth 100000
set_option maxHeartbeats 4000000
/-! Comprehensions with two generators, the second over a list. -/
namespace LB
open PySem PySem.Spec PyProof.Rows L2 LamX
section
variable {X : Cx} {T : List (Addr × Str)} {δ : List (Option PyData)} {elt iter iter1 tg : Expr} {scope : Scope} {x1 : Str} {px1 pos : Pos} {wi : TI} {g : TG} {s0 : List Nat} {items : List (List (Nat × PyData))} {i1 : Nat} {own : List (Str × Nat)}
def fl (es : Nat → List PyData) (j : Nat) : List PyData := (List.range j).flatMap es
theorem fl_succ {es : Nat → List PyData} {j : Nat} : fl es (j + 1) = fl es j ++ es j := by
  unfold fl
  rw [List.range_succ, List.flatMap_append]
  simp
theorem lc2_go {σ : L2.St} {H : Hp} {Q : VK} {ds1 es : Nat → List PyData} (I : ItD X T δ wi g s0 items) (few : items.length ≤ 1000) (sub : ∀ i ∈ s0, i ∈ own.map (·.2)) (m1 : i1 ∈ own.map (·.2)) (lt : ∀ i ∈ own.map (·.2), i < X.N.length)
    (len : ∀ j, j < items.length → (es j).length = (ds1 j).length) (small : ∀ j, j ≤ items.length → (fl es j).length ≤ 1000)
    (hin : ∀ j b, items[j]? = some b → EltOk X T scope (bindD (wipeD δ (own.map (·.2))) b) iter1 (.list (ds1 j)))
    (helt : ∀ (j : Nat) (b : List (Nat × PyData)) (k : Nat) (d e : PyData), items[j]? = some b → (ds1 j)[k]? = some d → (es j)[k]? = some e → EltOk X T scope ((wipeD (bindD (wipeD δ (own.map (·.2))) b) [i1]).set i1 (some d)) elt e)
    (hl : σ.length = X.N.length) (hd : DS X.K H σ δ) (t : Tabs T H) (q : ∀ v H', Gw T H H' → Dp X.K H' v (.list (fl es items.length)) → Q v H') : tLc2 wi g tYes (iList X.K (bvT X scope iter1)) (gName i1) tYes (bvT X scope elt) (own.map (·.2)) [i1] σ H Q := by
  refine I σ H _ hl hd t fun J H1 G Y g1 W hG y D hD => ?_
  let Pv : Nat → Hp → Prop := fun j H => ∃ acc, H D = some (.lst acc) ∧ Gw T H1 (hid H D) ∧ DpAll X.K (hid H D) acc (fl es j)
  refine ⟨fun j m H => m = items.length - j ∧ j ≤ items.length ∧ Pv j H, ⟨_, rfl, Nat.zero_le _, [], upd_same, by rw [hid_upd, hid_none hD]; exact Gw.refl g1.2, .nil⟩, ?_⟩
  rintro j m H2 ⟨rfl, hj, acc, hacc, gg, dacc⟩
  have gH := Gw.un gg hacc
  by_cases c : j < items.length
  · refine .inr ⟨W.goes j H2 c (hG H2 gH), Pv (j + 1), fun H' p => ⟨_, by omega, rfl, c, p⟩, fun xv H' yy => ?_⟩
    obtain ⟨g2, b, l, hb, hs, dl, gset⟩ := y j H2 xv H' gH c (W.yields j H2 xv H' c (hG H2 gH) yy)
    have hacc' := g2.lst hacc
    have gh := g2.hid hacc
    have slo : ∀ i ∈ l.map (·.1), i ∈ own.map (·.2) := fun i hi => by
      rw [dl.slots, hs] at hi
      exact sub i hi
    refine gset _ _ ⟨?_, ?_⟩
    · rw [wipe_sets l _ slo, wipe_wipe σ _ fun _ h => h]
    · dsimp only [tYes]
      try rw [if_pos rfl]
      have len2 : (sets (L2.wipe σ (own.map (·.2))) l).length = X.N.length := by rw [sets_len, wipe_length]; exact hl
      have ds2 : DS X.K (hid H' D) (sets (L2.wipe σ (own.map (·.2))) l) (bindD (wipeD δ (own.map (·.2))) b) :=
        DS.sets (DpB.gw dl (gg.trans gh)) ((hd.gw (g1.trans (gg.trans gh))).wipe _) fun i hi => by
          rw [wipe_length, hl]
          exact lt i (slo i hi)
      generalize hσ2 : sets (L2.wipe σ (own.map (·.2))) l = σ2 at len2 ds2
      have ev : bvT X scope iter1 σ2 (hid H' D) fun v H5 => Gw T (hid H' D) H5 ∧ Dp X.K H5 v (.list (ds1 j)) := fun s H0 C cl fp => (hin j b hb s H0 C cl fp).go len2 ds2 gh.2 fun v H5 g5 d5 => ⟨g5, d5⟩
      refine bvT_mono _ _ _ _ (fun v H5 z5 => ?_) (bvT.frame hacc' True.intro ev)
      obtain ⟨H6, ⟨g6, d6⟩, n6, e5⟩ := z5
      have h5 : hid H5 D = H6 := by rw [e5, hid_upd, hid_none n6]
      have hD5 : H5 D = some (.lst acc) := by rw [e5, upd_same]
      cases d6 with
      | @lst ad xs _ hq hv =>
        have up5 : Gw T H6 H5 := h5 ▸ Gw.un (Gw.refl (h5.symm ▸ g6.2)) hD5
        have hq5 : ∀ H, Gw T H6 H → SqL X.K H ad xs := fun H gx => SqL.gw hq gx
        refine ⟨ad, rfl, ⟨xs, hq5 _ up5⟩, ?_⟩
        have lxs : xs.length = (ds1 j).length := dpAll_len hv
        let P1 : Nat → Hp → Prop := fun k H => ∃ acc, H D = some (.lst acc) ∧ Gw T H6 (hid H D) ∧ DpAll X.K (hid H D) acc (fl es j ++ (es j).take k)
        have base := (gg.trans gh).trans g6
        refine ⟨fun k r H => r = xs.length - k ∧ k ≤ xs.length ∧ P1 k H, ⟨_, rfl, Nat.zero_le _, acc, hD5, by rw [h5]; exact Gw.refl g6.2, ?_⟩, ?_⟩
        · rw [h5, List.take_zero, List.append_nil]
          exact DpAll.gw (gh.trans g6) _ _ dacc
        rintro k r H7 ⟨rfl, hk, acc7, hacc7, gg7, dacc7⟩
        have gH7 : Gw T H6 H7 := Gw.un gg7 hacc7
        by_cases ck : k < xs.length
        · refine .inr ⟨walk_list.goes k H7 ck (hq5 _ gH7), P1 (k + 1), fun H' p => ⟨_, by omega, rfl, ck, p⟩, fun xv1 H8 yy1 => ?_⟩
          obtain ⟨rfl, hx⟩ := walk_list.yields k H7 xv1 H8 ck (hq5 _ gH7) yy1
          have ckd : k < (ds1 j).length := by rw [← lxs]; exact ck
          obtain ⟨v', hv', dp⟩ := dpAll_get hv (List.getElem?_eq_getElem ckd)
          rw [hx] at hv'
          cases hv'
          have cke : k < (es j).length := by rw [len j c]; exact ckd
          refine ⟨?_, ?_⟩
          · exact wipe2
          · try rw [if_pos rfl]
            have len3 : ((L2.wipe σ2 [i1]).set i1 (some xv1)).length = X.N.length := by rw [wipe_len]; exact len2
            have ds3 : DS X.K (hid H8 D) ((L2.wipe σ2 [i1]).set i1 (some xv1)) ((wipeD (bindD (wipeD δ (own.map (·.2))) b) [i1]).set i1 (some (ds1 j)[k])) :=
              DS.set ((ds2.gw (g6.trans gg7)).wipe [i1]) (by rw [wipe_length, len2]; exact lt i1 m1) (Dp.gw gg7 _ _ dp)
            have ev3 : bvT X scope elt ((L2.wipe σ2 [i1]).set i1 (some xv1)) (hid H8 D) fun v H9 => Gw T (hid H8 D) H9 ∧ Dp X.K H9 v (es j)[k] := fun s H0 C cl fp => (helt j b k _ _ hb (List.getElem?_eq_getElem ckd) (List.getElem?_eq_getElem cke) s H0 C cl fp).go len3 ds3 gg7.2 fun v H9 g9 d9 => ⟨g9, d9⟩
            refine bvT_mono _ _ _ _ (fun v H9 z9 => ?_) (bvT.frame hacc7 True.intro ev3)
            obtain ⟨H10, ⟨g10, d10⟩, n10, e9⟩ := z9
            have h9 : hid H9 D = H10 := by rw [e9, hid_upd, hid_none n10]
            have hD9 : H9 D = some (.lst acc7) := by rw [e9, upd_same]
            refine ⟨acc7, hD9, ?_, acc7 ++ [v], upd_same, ?_, ?_⟩
            · have z := small (j + 1) c
              rw [fl_succ, List.length_append] at z
              rw [dpAll_len dacc7, List.length_append, sizeLine_eq]
              have := List.length_take_le k (es j)
              omega
            · rw [hid_upd, h9]
              exact gg7.trans g10
            · rw [hid_upd, h9, List.take_add_one, List.getElem?_eq_getElem cke, ← List.append_assoc]
              exact dpAll_snoc (DpAll.gw g10 _ _ dacc7) d10
        · have ek : k = xs.length := by omega
          subst ek
          refine .inl ⟨walk_list.stops H7 (hq5 _ gH7), acc7, hacc7, base.trans gg7, ?_⟩
          rw [fl_succ]
          rw [lxs, ← len j c, List.take_length] at dacc7
          exact dacc7
  · have ej : j = items.length := by omega
    subst ej
    have up : Gw T (hid H2 D) H2 := Gw.un (Gw.refl gg.2) hacc
    exact .inl ⟨W.stops H2 (hG H2 gH), q _ _ (g1.trans gH) (.lst (SqL.of hacc) (DpAll.gw up _ _ dacc))⟩
theorem De.lc2 {ds1 es : Nat → List PyData} (hc : X.calm = true) (hN : X.N.Nodup) (S : Src X T scope δ tg iter s0 items) (few : items.length ≤ 1000) (sub : ∀ i ∈ s0, i ∈ own.map (·.2)) (m1 : i1 ∈ own.map (·.2))
    (len : ∀ j, j < items.length → (es j).length = (ds1 j).length) (small : ∀ j, j ≤ items.length → (fl es j).length ≤ 1000)
    (hin : ∀ j b, items[j]? = some b → EltOk X T scope (bindD (wipeD δ (own.map (·.2))) b) iter1 (.list (ds1 j)))
    (helt : ∀ (j : Nat) (b : List (Nat × PyData)) (k : Nat) (d e : PyData), items[j]? = some b → (ds1 j)[k]? = some d → (es j)[k]? = some e → EltOk X T scope ((wipeD (bindD (wipeD δ (own.map (·.2))) b) [i1]).set i1 (some d)) elt e)
    (bk : BlkOk X.N X.env.scope scope own) (hg1 : PgOk X scope (.Name x1 px1) (gName i1)) (hs1 : ∀ env x, foldedSetIterable iter1 env x = pure x := by intro _ _; rfl) :
    De X T δ (.ListComp elt [⟨tg, iter, [], 0⟩, ⟨.Name x1 px1, iter1, [], 0⟩] scope pos) (.list (fl es items.length)) := by
  obtain ⟨wi, g, hi, hg, I, hs⟩ := S
  exact De.of (pe_lc2 (te := bvT X scope elt) (wi1 := iList X.K (bvT X scope iter1)) (g1 := gName i1) (vs1 := [i1]) hc hN hi bk (fun i h => by rw [List.mem_singleton.mp h]; exact m1) hg (fun _ _ _ _ _ => pts_nil) (fun s H C cl fp => pi_list ⟨fun pins s1 σ H1 Q J h => h s H C cl fp pins s1 J⟩) hg1 (fun _ _ _ _ _ => pts_nil)
    (fun s H C cl fp => ⟨fun pins s1 σ H1 Q J h => h s H C cl fp pins s1 J⟩) hs hs1) fun σ H Q hl hd t q => lc2_go I few sub m1 (own_lt bk) len small hin helt hl hd t q
end
end LB
end
section
set_option autoImplicit false
set_option Elab.async false
set_option linter.all false
set_option maxRecDepth 100000
set_option maxHeartbeats 4000000
/-! Walks: least values. -/
namespace LB
open PySem PySem.Spec PySem.W PyProof.Rows L2 LamX
theorem least_len : ∀ s : S, (leastM s).length = cmpS s
  | .mark ls => by simp [leastM, cmpS]
  | .count => rfl
  | .lane _ => rfl
  | .heap _ => rfl
  | .either a b => by simp [leastM, cmpS, least_len a, least_len b]
  | .both a b => by
    have : ∀ (xs : List PyData), (xs.flatMap fun v => (leastM b).map fun w => PyData.tuple [v, w]).length = xs.length * (leastM b).length := by
      intro xs
      induction xs with
      | nil => simp
      | cons x xs ih => rw [List.flatMap_cons, List.length_append, ih, List.length_map, List.length_cons, Nat.succ_mul]; omega
    show ((leastM a).flatMap fun v => (leastM b).map fun w => PyData.tuple [v, w]).length = cmpS a * cmpS b
    rw [this, least_len a, least_len b]
section
variable {P : Program} {w : World} {K : PySem.W.Frag} {mg : Str → Option Value} {base : Heap} {T : List (Addr × Str)} {f : Addr} {fd : FuncData}
theorem fl_list {xs : List PyData} (h : PyData → List PyData) : fl (fun j => h (xs.getD j .none)) xs.length = xs.flatMap h := by
  have key : ∀ n, n ≤ xs.length → fl (fun j => h (xs.getD j .none)) n = (xs.take n).flatMap h := by
    intro n
    induction n with
    | zero => intro _; rfl
    | succ n ih =>
      intro hn
      rw [fl_succ, ih (by omega), List.take_add_one, List.getElem?_eq_getElem (by omega), List.flatMap_append, List.getD_eq_getElem?_getD, List.getElem?_eq_getElem (by omega)]
      simp
  rw [key _ (Nat.le_refl _), List.take_length]
theorem fl_le {es : Nat → List PyData} {n m : Nat} (h : n ≤ m) : (fl es n).length ≤ (fl es m).length := by
  induction m with
  | zero =>
    have : n = 0 := by omega
    rw [this]
    exact Nat.le_refl _
  | succ m ih =>
    by_cases c : n = m + 1
    · rw [c]
      exact Nat.le_refl _
    · rw [fl_succ, List.length_append]
      have := ih (by omega)
      omega
abbrev sLeast : Stmt := top 47
theorem sc_least : FnScope ["sort", "kind", "v", "w", "side"] ["sort"] (defScope sLeast) := ⟨rfl, rfl, rfl, by decide +kernel, rfl, by decide +kernel, by decide +kernel⟩
def RLeast (n : Nat) (ds : List PyData) (d : PyData) : Prop := ∃ s : S, ds = [s.enc] ∧ dep s ≤ n ∧ (∀ p ∈ subsS s, cmpS p ≤ 27) ∧ d = .list (leastM s)
theorem w_least (F : Fun K "raw_least" "raw_least" sLeast f fd) (hm : mg "raw_least" = some (.ref f)) (hb : Binds K fd ["sort"] []) (G : Gb w mg K) : ∀ n, Fd P w K mg base T (n + 1) "raw_least" (RLeast n)
  | 0 => Fd.void F hm hb sc_least fun ds d ⟨s, _, h, _⟩ => by have := dep_pos s; omega
  | n + 1 => by
    have IH := w_least F hm hb G n
    refine Fd.mk (m := 4) F hm hb sc_least (fun ds d ⟨_, e, _⟩ => by rw [e]; rfl) fun cdv A outer s H E ds d hr ⟨s, e1, hn, hc, e2⟩ => ?_
    subst e1 e2
    have hfr := G.fr
    refine Dr.next (Dn1.set (i := 1) sc_least.nd (De.kind (s := s) (dv 0))) ?_
    cases s with
    | mark ls => exact Dr.ifT (Dt.isS (x := kMark) (dv 1)) (Dr.ret (De.listOf hfr (De.ixT (k := 1) (d := .tuple (ls.map .str)) (De.enc (s := .mark ls) (dv 0)) De.int rfl)))
    | count => exact Dr.ifF (Dt.isS (x := kCount) (dv 1)) (Dr.ifT (Dt.isS (x := kCount) (dv 1)) (Dr.ret (De.lst (Da.cons De.int Da.nil))))
    | lane a => exact Dr.ifF (Dt.isS (x := kLane) (dv 1)) (Dr.ifF (Dt.isS (x := kLane) (dv 1)) (Dr.ifF (Dt.isS (x := kLane) (dv 1)) (Dr.ifF (Dt.isS (x := kLane) (dv 1)) (Dr.ret (De.lst (ds := [.tuple []]) (Da.cons (De.tup (ds := []) Da.nil) Da.nil))))))
    | heap a => exact Dr.ifF (Dt.isS (x := kHeap) (dv 1)) (Dr.ifF (Dt.isS (x := kHeap) (dv 1)) (Dr.ifF (Dt.isS (x := kHeap) (dv 1)) (Dr.ifF (Dt.isS (x := kHeap) (dv 1)) (Dr.ret (De.lst (ds := [.tuple []]) (Da.cons (De.tup (ds := []) Da.nil) Da.nil))))))
    | both a b =>
      have da := d_b1 (a := a) (b := b)
      have db := d_b2 (a := a) (b := b)
      have ha : ∀ p ∈ subsS a, cmpS p ≤ 27 := fun p hp => hc p (subs_part (s := .both a b) (p := a) (by simp [partsS]) hp)
      have hb' : ∀ p ∈ subsS b, cmpS p ≤ 27 := fun p hp => hc p (subs_part (s := .both a b) (p := b) (by simp [partsS]) hp)
      have la := least_len a
      have lb := least_len b
      have ls := least_len (.both a b)
      have ca := ha a (subs_self a)
      have cs := hc _ (subs_self (.both a b))
      have fe := fl_list (xs := leastM a) fun v => (leastM b).map fun w => .tuple [v, w]
      refine Dr.ifF (Dt.isS (x := kBoth) (dv 1)) (Dr.ifF (Dt.isS (x := kBoth) (dv 1)) (Dr.ifT (Dt.isS (x := kBoth) (dv 1)) (Dr.ret (De.cast (De.lc2 (i1 := 3) (ds1 := fun _ => leastM b) (es := fun j => (leastM b).map fun w => .tuple [(leastM a).getD j .none, w]) rfl sc_least.nd
        (src_l (i := 2) (ds := leastM a) (De.call IH (hr.mono (by omega)) (Da.cons (De.ixT (k := 1) (d := a.enc) (De.enc (s := .both a b) (dv 0)) De.int rfl) Da.nil) ⟨a, rfl, by omega, ha, rfl⟩) (fun _ _ _ _ _ => pg_name sc_least.nd rfl (Or.inl rfl))) ?_ (by simp) (by simp) (fun j hj => by rw [List.length_map]) (fun j hj => ?_)
        (fun j bb hbb s2 H2 C cl fp => ?_) (fun j bb k d e hbb hd he s2 H2 C cl fp => ?_) (blkOk_by (N := ["sort", "kind", "v", "w", "side"]) (sc := defScope sLeast) (own := [("v", 2), ("w", 3)]) (by decide +kernel)) (fun _ _ _ _ _ => pg_name sc_least.nd rfl (Or.inl rfl))) ?_))))
      · rw [ones_len]
        omega
      · rw [ones_len] at hj
        have z := fl_le (es := fun j => (leastM b).map fun w => PyData.tuple [(leastM a).getD j .none, w]) hj
        rw [fe] at z
        have ll : ((leastM a).flatMap fun v => (leastM b).map fun w => PyData.tuple [v, w]).length ≤ 27 := by
          show (leastM (.both a b)).length ≤ 27
          omega
        omega
      · obtain ⟨d, hd2, rfl⟩ := ones_at hbb
        exact De.call IH (hr.mono (by omega)) (Da.cons (De.ixT (k := 2) (d := b.enc) (De.enc (s := .both a b) (dv 0)) De.int rfl) Da.nil) ⟨b, rfl, by omega, hb', rfl⟩
      · obtain ⟨d0, hd2, rfl⟩ := ones_at hbb
        rw [List.getElem?_map, hd] at he
        cases he
        have e0 : (leastM a).getD j .none = d0 := by rw [List.getD_eq_getElem?_getD, hd2]; rfl
        rw [e0]
        exact De.tup (Da.cons (dv 2 (d := d0)) (Da.cons (dv 3 (d := d)) Da.nil))
      · rw [ones_len, fe]
        rfl
    | either a b =>
      have da := d_e1 (a := a) (b := b)
      have db := d_e2 (a := a) (b := b)
      have ha : ∀ p ∈ subsS a, cmpS p ≤ 27 := fun p hp => hc p (subs_part (s := .either a b) (p := a) (by simp [partsS]) hp)
      have hb' : ∀ p ∈ subsS b, cmpS p ≤ 27 := fun p hp => hc p (subs_part (s := .either a b) (p := b) (by simp [partsS]) hp)
      have ls := least_len (.either a b)
      have cs := hc _ (subs_self (.either a b))
      have fe : fl (fun j => if j = 0 then (leastM a).map fun v => PyData.tuple [.str sL, v] else (leastM b).map fun v => PyData.tuple [.str sR, v]) 2 = leastM (.either a b) := by
        show [0, 1].flatMap _ = _
        simp [leastM]
      refine Dr.ifF (Dt.isS (x := kEither) (dv 1)) (Dr.ifF (Dt.isS (x := kEither) (dv 1)) (Dr.ifF (Dt.isS (x := kEither) (dv 1)) (Dr.ifT (Dt.isS (x := kEither) (dv 1)) (Dr.ret (De.cast (De.lc2 (i1 := 2) (ds1 := fun j => if j = 0 then leastM a else leastM b) (es := fun j => if j = 0 then (leastM a).map fun v => PyData.tuple [.str sL, v] else (leastM b).map fun v => PyData.tuple [.str sR, v]) rfl sc_least.nd
        (src_r (i := 4) (m := 2) hfr De.int (by decide) (fun _ _ _ _ _ => pg_name sc_least.nd rfl (Or.inl rfl))) ?_ (by simp) (by simp) (fun j hj => ?_) (fun j hj => ?_)
        (fun j bb hbb s2 H2 C cl fp => ?_) (fun j bb k d e hbb hd he s2 H2 C cl fp => ?_) (blkOk_by (N := ["sort", "kind", "v", "w", "side"]) (sc := defScope sLeast) (own := [("side", 4), ("v", 2)]) (by decide +kernel)) (fun _ _ _ _ _ => pg_name sc_least.nd rfl (Or.inl rfl))) ?_)))))
      · rw [ones_len, upto_len]
        decide
      · by_cases c : j = 0
        · simp [c]
        · simp [c]
      · rw [ones_len, upto_len] at hj
        have z := fl_le (es := fun j => if j = 0 then (leastM a).map fun v => PyData.tuple [.str sL, v] else (leastM b).map fun v => PyData.tuple [.str sR, v]) hj
        rw [fe] at z
        omega
      · obtain ⟨d0, hd2, rfl⟩ := ones_at hbb
        have hj : j < 2 := by
          have := (List.getElem?_eq_some_iff.mp hd2).1
          rw [upto_len] at this
          exact this
        rw [upto_at hj] at hd2
        cases hd2
        match j, hj with
        | 0, _ => exact De.call IH (hr.mono (by omega)) (Da.cons (De.ixT (k := 1) (d := a.enc) (De.enc (s := .either a b) (dv 0)) (De.cast (De.add De.int (dv 4 (d := .int ((0 : Nat) : Int)))) rfl) rfl) Da.nil) ⟨a, rfl, by omega, ha, rfl⟩
        | 1, _ => exact De.call IH (hr.mono (by omega)) (Da.cons (De.ixT (k := 2) (d := b.enc) (De.enc (s := .either a b) (dv 0)) (De.cast (De.add De.int (dv 4 (d := .int ((1 : Nat) : Int)))) rfl) rfl) Da.nil) ⟨b, rfl, by omega, hb', rfl⟩
      · obtain ⟨d0, hd2, rfl⟩ := ones_at hbb
        have hj : j < 2 := by
          have := (List.getElem?_eq_some_iff.mp hd2).1
          rw [upto_len] at this
          exact this
        rw [upto_at hj] at hd2
        cases hd2
        match j, hj with
        | 0, _ =>
          have he : ((leastM a).map fun v => PyData.tuple [.str sL, v])[k]? = some e := he
          have hd : (leastM a)[k]? = some d := hd
          rw [List.getElem?_map, hd] at he
          cases he
          exact De.tup (Da.cons (De.ixT (k := 0) (d := .str sL) (De.glob (d := sidesD) G.sides) (dv 4 (d := .int ((0 : Nat) : Int))) rfl) (Da.cons (dv 2 (d := d)) Da.nil))
        | 1, _ =>
          have he : ((leastM b).map fun v => PyData.tuple [.str sR, v])[k]? = some e := he
          have hd : (leastM b)[k]? = some d := hd
          rw [List.getElem?_map, hd] at he
          cases he
          exact De.tup (Da.cons (De.ixT (k := 1) (d := .str sR) (De.glob (d := sidesD) G.sides) (dv 4 (d := .int ((1 : Nat) : Int))) rfl) (Da.cons (dv 2 (d := d)) Da.nil))
      · rw [ones_len, upto_len, fe]
abbrev sLeastV : Stmt := top 48
theorem sc_leastv : FnScope ["sort"] ["sort"] (defScope sLeastV) := ⟨rfl, rfl, rfl, by decide +kernel, rfl, by decide +kernel, by decide +kernel⟩
def RLeastV (ds : List PyData) (d : PyData) : Prop := ∃ s : S, ds = [s.enc] ∧ Good s ∧ d = .list (leastM s)
theorem w_leastv (F : Fun K "least_values" "least_values" sLeastV f fd) (hm : mg "least_values" = some (.ref f)) (hb : Binds K fd ["sort"] []) (FC : Fd P w K mg base T 10 "check_sort" RCheck) (FL : Fd P w K mg base T 6 "raw_least" (RLeast 5)) : Fd P w K mg base T 11 "least_values" RLeastV := by
  refine Fd.mk (m := 0) F hm hb sc_leastv (fun ds d ⟨_, e, _⟩ => by rw [e]; rfl) fun cdv A outer s H E ds d hr ⟨s, e1, g, e2⟩ => ?_
  subst e1 e2
  exact Dr.next (Dn1.expr (De.call FC hr (Da.cons (dv 0 (d := s.enc)) Da.nil) ⟨⟨s, rfl, g⟩, rfl⟩)) (Dr.ret (De.call (FL.mono (by decide)) hr (Da.cons (dv 0 (d := s.enc)) Da.nil) ⟨s, rfl, g.dp, g.cm, rfl⟩))
end
end LB
end
section
set_option autoImplicit false
set_option Elab.async false
set_option linter.all false
set_option maxRecDepth 100000
set_option maxHeartbeats 4000000
/-! Walks: the law's key. -/
namespace LB
open PySem PySem.Spec PySem.W PyProof.Rows L2 LamX
section
variable {X : Cx} {T : List (Addr × Str)} {δ : List (Option PyData)} {o e : Expr} {apos cpos : Pos}
/-- l.index(x) of a list of texts -/
theorem De.indexL {ls : List Str} {z : Str} {j : Nat} (ho : De X T δ o (.list (ls.map .str))) (he : De X T δ e (.str z)) (hj : ls[j]? = some z) (hno : ∀ m, m < j → ls[m]? ≠ some z)
    (hbase : attributeBase o "index" X.env (eval o X.env) = eval o X.env := by rfl)
    (hfew : ((backTo cpos (starEach (e :: []) X.env)).all (fun x => !x.1) && (backToKw cpos (keywordEach [] X.env)).all (fun x => x.1.isSome)
      && decide ((e :: []).length + ([] : List Keyword).length + (if ([] : List Keyword).isEmpty then 0 else 1) < 30)) = true := by rfl)
    (hline : (apos.endLine == cpos.line) = true := by rfl) (hs : starEach (e :: []) X.env = (false, eval e X.env) :: starEach [] X.env := by rfl) (hplain : (backTo cpos (starEach [] X.env)).any (·.1) = false := by rfl) :
    De X T δ (.Call (.Attribute o "index" apos) [e] [] cpos) (.int (j : Nat)) :=
  De.of (pe_bm PySem.F.plainAttrs_list PySem.F.slot_list_index PySem.F.type_list_index mt_index pe_ev (pa_cons pe_ev pa_nil hs) hbase hfew hline hs hplain) fun σ H Q hl hd t q => ho.go hl hd t fun v H1 g1 d1 => by
    cases d1 with
    | @lst a xs _ hq hv =>
      have ex := strs_vals hv
      refine ⟨.inl ⟨rfl, xs, hq⟩, he.go hl (hd.gw g1) g1.2 fun y H2 g2 d2 => ?_⟩
      cases d2
      refine ⟨a, xs, .str z, j, .str z, rfl, rfl, SqL.gw hq g2, rfl, ?_, ?_, ?_, fun m z' hm hz' => ?_, q _ _ (g1.trans g2) (.int _)⟩
      · rw [ex]
        exact L2.flat_strs ls
      · rw [ex, List.getElem?_map, hj]
        rfl
      · show (z == z) = true
        exact beq_self_eq_true z
      · rw [ex, List.getElem?_map] at hz'
        obtain ⟨y, hy, rfl⟩ := Option.map_eq_some_iff.mp hz'
        show (y == z) = false
        cases c : y == z with
        | false => rfl
        | true => exact absurd (by rw [hy, eq_of_beq c]) (hno m hm)
end
section
variable {P : Program} {w : World} {K : PySem.W.Frag} {mg : Str → Option Value} {base : Heap} {T : List (Addr × Str)} {f : Addr} {fd : FuncData}
abbrev sLKey : Stmt := top 54
theorem sc_lkey : FnScope ["_law_sort", "_law_v", "_law_place", "_law_part"] ["_law_sort", "_law_v"] (defScope sLKey) := ⟨rfl, rfl, rfl, by decide +kernel, rfl, by decide +kernel, by decide +kernel⟩
def RLKey (n : Nat) (ds : List PyData) (d : PyData) : Prop := ∃ (s : S) (v : PyData), ds = [s.enc, v] ∧ LB.T s v ∧ dep s ≤ n ∧ d = keyL s v
theorem w_lkey (F : Fun K "_law_key" "_law_key" sLKey f fd) (hm : mg "_law_key" = some (.ref f)) (hb : Binds K fd ["_law_sort", "_law_v"] []) (G : Gb w mg K) : ∀ n, Fd P w K mg base T (n + 1) "_law_key" (RLKey n)
  | 0 => Fd.void F hm hb sc_lkey fun ds d ⟨s, _, _, _, h, _⟩ => by have := dep_pos s; omega
  | n + 1 => by
    have IH := w_lkey F hm hb G n
    refine Fd.mk (m := 2) F hm hb sc_lkey (fun ds d ⟨_, _, e, _⟩ => by rw [e]; rfl) fun cdv A outer s H E ds d hr ⟨s, v, e1, ht, hn, e2⟩ => ?_
    subst e1 e2
    have hfr := G.fr
    have row : ∀ (a : S) (xs : List PyData), xs.length ≤ 3 → (∀ x ∈ xs, LB.T a x) → dep a ≤ n → ∀ (k : Str) (s0 : S), s0.enc = .tuple [.str k, a.enc] → ∀ (sh : Shared) (cdv : Value) (H : Hp) (E : XK), Room (n + 1) (A.deeper (envOfC "_law_key" (defScope sLKey) sh.heap.objs.size f cdv)) →
        Dr (cxOf CX0 P w K mg base ["_law_sort", "_law_v", "_law_place", "_law_part"] "_law_key" (defScope sLKey) f cdv A outer sh H E).nox T [some s0.enc, some (.tuple xs), none, none] ((defBody sLKey).drop 4) (.tuple (xs.map (keyL a))) := by
      intro a xs h3 hx hd k s0 es sh cdv H E hr
      refine Dr.ret (De.tupleOf hfr (De.lcm (es := xs.map (keyL a)) rfl sc_lkey.nd (src_t (i := 3) (dv 1 (d := .tuple xs)) (fun _ _ _ _ _ => pg_name sc_lkey.nd rfl (Or.inl rfl))) ?_ ?_ (fun j b e hb he s2 H2 C cl fp => ?_)
        (blkOk_by (N := ["_law_sort", "_law_v", "_law_place", "_law_part"]) (sc := defScope sLKey) (own := [("_law_part", 3)]) (by decide +kernel))))
      · rw [ones_len, List.length_map]
      · rw [ones_len]
        omega
      · obtain ⟨d, hd2, rfl⟩ := ones_at hb
        rw [List.getElem?_map, hd2] at he
        cases he
        exact De.call IH (hr.mono (by omega)) (Da.cons (De.ixT (k := 1) (d := a.enc) (De.cast (dv 0 (d := s0.enc)) es) De.int rfl) (Da.cons (dv 3 (d := d)) Da.nil)) ⟨a, d, rfl, hx d (List.mem_of_getElem? hd2), hd, rfl⟩
    cases s with
    | mark ls =>
      obtain ⟨x, hx, rfl⟩ := ht
      exact Dr.ifT (Dt.kindIs (k := kMark) (s := .mark ls) (dv 0)) (Dr.ret (De.indexL (ls := ls) (z := x) (j := ix ls x) (De.listOf hfr (De.ixT (k := 1) (d := .tuple (ls.map .str)) (De.enc (s := .mark ls) (dv 0)) De.int rfl)) (dv 1 (d := .str x)) (ix_at hx) fun m hm => ix_first m hm))
    | count =>
      obtain ⟨m, hm3, rfl⟩ := ht
      exact Dr.ifF (Dt.kindIs (k := kCount) (s := .count) (dv 0)) (Dr.ifT (Dt.kindIs (k := kCount) (s := .count) (dv 0)) (Dr.ret (De.cast (dv 1 (d := .int (m : Nat))) rfl)))
    | both a b =>
      obtain ⟨x, y, rfl, hx, hy⟩ := ht
      have da := d_b1 (a := a) (b := b)
      have db := d_b2 (a := a) (b := b)
      exact Dr.ifF (Dt.kindIs (k := kBoth) (s := .both a b) (dv 0)) (Dr.ifF (Dt.kindIs (k := kBoth) (s := .both a b) (dv 0)) (Dr.ifT (Dt.kindIs (k := kBoth) (s := .both a b) (dv 0)) (Dr.ret (De.tup
        (Da.cons (De.call IH (hr.mono (by omega)) (Da.cons (De.ixT (k := 1) (d := a.enc) (De.enc (s := .both a b) (dv 0)) De.int rfl) (Da.cons (De.ixT (k := 0) (d := x) (dv 1 (d := .tuple [x, y])) De.int rfl) Da.nil)) ⟨a, x, rfl, hx, by omega, rfl⟩)
        (Da.cons (De.call IH (hr.mono (by omega)) (Da.cons (De.ixT (k := 2) (d := b.enc) (De.enc (s := .both a b) (dv 0)) De.int rfl) (Da.cons (De.ixT (k := 1) (d := y) (dv 1 (d := .tuple [x, y])) De.int rfl) Da.nil)) ⟨b, y, rfl, hy, by omega, rfl⟩) Da.nil))))))
    | either a b =>
      have da := d_e1 (a := a) (b := b)
      have db := d_e2 (a := a) (b := b)
      rcases ht with ⟨x, rfl, hx⟩ | ⟨x, rfl, hx⟩
      · refine Dr.ifF (Dt.kindIs (k := kEither) (s := .either a b) (dv 0)) (Dr.ifF (Dt.kindIs (k := kEither) (s := .either a b) (dv 0)) (Dr.ifF (Dt.kindIs (k := kEither) (s := .either a b) (dv 0)) (Dr.ifT (Dt.kindIs (k := kEither) (s := .either a b) (dv 0)) (Dr.next (Dn1.set (i := 2) sc_lkey.nd (De.intB (k := false) hfr (De.cast (De.eqS (De.ixT (k := 0) (d := .str sL) (dv 1 (d := .tuple [.str sL, x])) De.int rfl) De.str) (congrArg PyData.bool (by decide +kernel)))))
          (Dr.ret (De.cast (De.tup (Da.cons (dv 2 (d := .int ((0 : Nat) : Int))) (Da.cons (De.call IH (hr.mono (by omega)) (Da.cons (De.ixT (k := 1) (d := a.enc) (De.enc (s := .either a b) (dv 0)) (De.cast (De.add De.int (dv 2 (d := .int ((0 : Nat) : Int)))) rfl) rfl) (Da.cons (De.ixT (k := 1) (d := x) (dv 1 (d := .tuple [.str sL, x])) De.int rfl) Da.nil)) ⟨a, x, rfl, hx, by omega, rfl⟩) Da.nil))) ?_))))))
        simp only [keyL, if_neg nLR]
        rfl
      · refine Dr.ifF (Dt.kindIs (k := kEither) (s := .either a b) (dv 0)) (Dr.ifF (Dt.kindIs (k := kEither) (s := .either a b) (dv 0)) (Dr.ifF (Dt.kindIs (k := kEither) (s := .either a b) (dv 0)) (Dr.ifT (Dt.kindIs (k := kEither) (s := .either a b) (dv 0)) (Dr.next (Dn1.set (i := 2) sc_lkey.nd (De.intB (k := true) hfr (De.cast (De.eqS (De.ixT (k := 0) (d := .str sR) (dv 1 (d := .tuple [.str sR, x])) De.int rfl) De.str) (congrArg PyData.bool (by decide +kernel)))))
          (Dr.ret (De.cast (De.tup (Da.cons (dv 2 (d := .int ((1 : Nat) : Int))) (Da.cons (De.call IH (hr.mono (by omega)) (Da.cons (De.ixT (k := 2) (d := b.enc) (De.enc (s := .either a b) (dv 0)) (De.cast (De.add De.int (dv 2 (d := .int ((1 : Nat) : Int)))) rfl) rfl) (Da.cons (De.ixT (k := 1) (d := x) (dv 1 (d := .tuple [.str sR, x])) De.int rfl) Da.nil)) ⟨b, x, rfl, hx, by omega, rfl⟩) Da.nil))) ?_))))))
        simp only [keyL, if_pos True.intro]
        rfl
    | lane a =>
      obtain ⟨xs, rfl, h3, hx⟩ := ht
      have da := d_l (a := a)
      exact Dr.ifF (Dt.kindIs (k := kLane) (s := .lane a) (dv 0)) (Dr.ifF (Dt.kindIs (k := kLane) (s := .lane a) (dv 0)) (Dr.ifF (Dt.kindIs (k := kLane) (s := .lane a) (dv 0)) (Dr.ifF (Dt.kindIs (k := kLane) (s := .lane a) (dv 0)) (row a xs h3 hx (by omega) kLane (.lane a) rfl _ _ _ _ hr))))
    | heap a =>
      obtain ⟨xs, rfl, h3, hx, _⟩ := ht
      have da := d_h (a := a)
      exact Dr.ifF (Dt.kindIs (k := kHeap) (s := .heap a) (dv 0)) (Dr.ifF (Dt.kindIs (k := kHeap) (s := .heap a) (dv 0)) (Dr.ifF (Dt.kindIs (k := kHeap) (s := .heap a) (dv 0)) (Dr.ifF (Dt.kindIs (k := kHeap) (s := .heap a) (dv 0)) (row a xs h3 hx (by omega) kHeap (.heap a) rfl _ _ _ _ hr))))
end
end LB
end
section
set_option autoImplicit false
set_option Elab.async false
set_option linter.all false
set_option maxRecDepth 100000
set_option maxHeartbeats 4000000
/-! Walks: the law's forming. -/
namespace LB
open PySem PySem.Spec PySem.W PyProof.Rows L2 LamX
section
variable {P : Program} {w : World} {K : PySem.W.Frag} {mg : Str → Option Value} {base : Heap} {T : List (Addr × Str)} {f : Addr} {fd : FuncData}
abbrev sLF : Stmt := top 55
theorem sc_lf : FnScope ["_law_sort", "_law_v", "_law_part", "_law_found"] ["_law_sort", "_law_v"] (defScope sLF) := ⟨rfl, rfl, rfl, by decide +kernel, rfl, by decide +kernel, by decide +kernel⟩
def RLF (n : Nat) (ds : List PyData) (d : PyData) : Prop := ∃ (s : S) (v : PyData), ds = [s.enc, v] ∧ PT s v ∧ dep s ≤ 5 ∧ dep s ≤ n ∧ FormR s v d
theorem form_self {s : S} {v : PyData} (h : LB.T s v) : FormR s v v := by
  cases s with
  | heap a =>
    obtain ⟨xs, rfl, _, _, pw⟩ := h
    exact ⟨xs, xs, rfl, rfl, List.Perm.refl _, pw⟩
  | _ => exact rfl
theorem sorted_lkey {a : S} {xs ys ds : List PyData} (ht : ∀ x ∈ xs, LB.T a x) (p : ys.Perm xs) (q : ys.Pairwise (Le a)) (p2 : ds.Perm xs) (q2 : ds.Pairwise fun x y => dataLt (keyL a y) (keyL a x) = false) : ds = ys := by
  have td : ∀ d ∈ ds, LB.T a d := fun d hd => ht d (p2.mem_iff.mp hd)
  refine sorted_eq (p2.trans p.symm) td ?_ q
  refine List.Pairwise.imp_of_mem (fun {x y} hx hy h => ?_) q2
  show dataLt (keyV a y) (keyV a x) = false
  rw [key_same (td y hy) (td x hx)]
  exact h
theorem w_lf {c Pp : Addr} (F : FunC K "_law_formed" sLF f fd c) (hm : mg "_law_formed" = some (.ref f)) (hb : Binds K fd ["_law_sort", "_law_v"] []) (G : Gb w mg K) (LA : LamAt base mg T "_law_formed" c Pp) (FK : Fd P w K mg base T 6 "_law_key" (RLKey 5)) : ∀ n, Fd P w K mg base T (n + 10) "_law_formed" (RLF n)
  | 0 => Fd.mkC (k := 9) (m := 2) F hm hb sc_lf (fun ds d ⟨_, _, e, _⟩ => by rw [e]; rfl) fun A outer s H E ds d hr ⟨s0, _, _, _, _, h, _⟩ => by have := dep_pos s0; omega
  | n + 1 => by
    have IH := w_lf F hm hb G LA FK n
    show Fd P w K mg base T ((n + 10) + 1) _ _
    refine Fd.mkC (m := 2) F hm hb sc_lf (fun ds d ⟨_, _, e, _⟩ => by rw [e]; rfl) fun A outer s H E ds d hr ⟨s, v, e1, ht, h5, hn, hf⟩ => ?_
    subst e1
    have hfr := G.fr
    have found : ∀ (a : S) (xs : List PyData), xs.length ≤ 3 → (∀ x ∈ xs, LB.T a x) → dep a ≤ 5 → dep a ≤ n → ∀ (k : Str) (s0 : S), s0.enc = .tuple [.str k, a.enc] → ∀ (sh : Shared) (H : Hp) (E : XK), Room (n + 10) (A.deeper (envOfC "_law_formed" (defScope sLF) sh.heap.objs.size f (.ref c))) →
        Dn1 (cxOf CX0 P w K mg base ["_law_sort", "_law_v", "_law_part", "_law_found"] "_law_formed" (defScope sLF) f (.ref c) A outer sh H E).nox T [some s0.enc, some (.tuple xs), none, none] ((defBody sLF).getD 3 (.Pass ⟨0, 0, 0, 0⟩)) [some s0.enc, some (.tuple xs), none, some (.list xs)] := by
      intro a xs h3 hx h5 hd k s0 es sh H E hr
      refine Dn1.ofS (i := 3) (δ := [some s0.enc, some (.tuple xs), none, none]) (Ds.lcm (es := xs) rfl sc_lf.nd (src_t (i := 2) (dv 1 (d := .tuple xs)) (fun _ _ _ _ _ => pg_name sc_lf.nd rfl (Or.inl rfl))) ?_ ?_ (fun j b e hb he s2 H2 C cl fp => ?_)
        (blkOk_by (N := ["_law_sort", "_law_v", "_law_part", "_law_found"]) (sc := defScope sLF) (own := [("_law_part", 2)]) (by decide +kernel)) (sw_true rfl rfl rfl rfl)) (by show 3 < 4; decide)
      · rw [ones_len]
      · rw [ones_len]
        omega
      · obtain ⟨d, hd2, rfl⟩ := ones_at hb
        have ed : d = e := Option.some.inj (hd2.symm.trans he)
        subst ed
        have td := hx d (List.mem_of_getElem? hd2)
        exact De.call IH (hr.mono (by omega)) (Da.cons (De.ixT (k := 1) (d := a.enc) (De.cast (dv 0 (d := s0.enc)) es) De.int rfl) (Da.cons (dv 2 (d := d)) Da.nil)) ⟨a, d, rfl, LB.T.pt td, h5, hd, form_self td⟩
    cases s with
    | mark ls =>
      have hf : d = v := hf
      subst hf
      exact Dr.ifF (Dt.kindIs (k := kMark) (s := .mark ls) (dv 0)) (Dr.ifF (Dt.kindIs (k := kMark) (s := .mark ls) (dv 0)) (Dr.ifT (Dt.cast (Dt.inT (z := kMark) (zs := ["mark", "count"]) (De.kind (s := .mark ls) (dv 0)) (De.tup (Da.cons De.str (Da.cons De.str Da.nil)))) (by decide +kernel)) (Dr.ret (dv 1 (d := d)))))
    | count =>
      have hf : d = v := hf
      subst hf
      exact Dr.ifF (Dt.kindIs (k := kCount) (s := .count) (dv 0)) (Dr.ifF (Dt.kindIs (k := kCount) (s := .count) (dv 0)) (Dr.ifT (Dt.cast (Dt.inT (z := kCount) (zs := ["mark", "count"]) (De.kind (s := .count) (dv 0)) (De.tup (Da.cons De.str (Da.cons De.str Da.nil)))) (by decide +kernel)) (Dr.ret (dv 1 (d := d)))))
    | both a b =>
      cases hf
      obtain ⟨x, y, rfl, hx, hy⟩ := ht
      have da := d_b1 (a := a) (b := b)
      have db := d_b2 (a := a) (b := b)
      exact Dr.ifT (Dt.kindIs (k := kBoth) (s := .both a b) (dv 0)) (Dr.ret (De.tup
        (Da.cons (De.call IH (hr.mono (by omega)) (Da.cons (De.ixT (k := 1) (d := a.enc) (De.enc (s := .both a b) (dv 0)) De.int rfl) (Da.cons (De.ixT (k := 0) (d := x) (dv 1 (d := .tuple [x, y])) De.int rfl) Da.nil)) ⟨a, x, rfl, LB.T.pt hx, by omega, by omega, form_self hx⟩)
        (Da.cons (De.call IH (hr.mono (by omega)) (Da.cons (De.ixT (k := 2) (d := b.enc) (De.enc (s := .both a b) (dv 0)) De.int rfl) (Da.cons (De.ixT (k := 1) (d := y) (dv 1 (d := .tuple [x, y])) De.int rfl) Da.nil)) ⟨b, y, rfl, LB.T.pt hy, by omega, by omega, form_self hy⟩) Da.nil))))
    | either a b =>
      cases hf
      have da := d_e1 (a := a) (b := b)
      have db := d_e2 (a := a) (b := b)
      rcases ht with ⟨x, rfl, hx⟩ | ⟨x, rfl, hx⟩
      · exact Dr.ifF (Dt.kindIs (k := kEither) (s := .either a b) (dv 0)) (Dr.ifT (Dt.kindIs (k := kEither) (s := .either a b) (dv 0)) (Dr.ret (De.tup (Da.cons (De.ixT (k := 0) (d := .str sL) (dv 1 (d := .tuple [.str sL, x])) De.int rfl) (Da.cons
          (De.call IH (hr.mono (by omega)) (Da.cons (De.ixT (k := 1) (d := a.enc) (De.enc (s := .either a b) (dv 0)) (De.cast (De.add De.int (De.intB (k := false) hfr (De.cast (De.eqS (De.ixT (k := 0) (d := .str sL) (dv 1 (d := .tuple [.str sL, x])) De.int rfl) De.str) (congrArg PyData.bool (by decide +kernel))))) rfl) rfl)
            (Da.cons (De.ixT (k := 1) (d := x) (dv 1 (d := .tuple [.str sL, x])) De.int rfl) Da.nil)) ⟨a, x, rfl, LB.T.pt hx, by omega, by omega, form_self hx⟩) Da.nil)))))
      · exact Dr.ifF (Dt.kindIs (k := kEither) (s := .either a b) (dv 0)) (Dr.ifT (Dt.kindIs (k := kEither) (s := .either a b) (dv 0)) (Dr.ret (De.tup (Da.cons (De.ixT (k := 0) (d := .str sR) (dv 1 (d := .tuple [.str sR, x])) De.int rfl) (Da.cons
          (De.call IH (hr.mono (by omega)) (Da.cons (De.ixT (k := 2) (d := b.enc) (De.enc (s := .either a b) (dv 0)) (De.cast (De.add De.int (De.intB (k := true) hfr (De.cast (De.eqS (De.ixT (k := 0) (d := .str sR) (dv 1 (d := .tuple [.str sR, x])) De.int rfl) De.str) (congrArg PyData.bool (by decide +kernel))))) rfl) rfl)
            (Da.cons (De.ixT (k := 1) (d := x) (dv 1 (d := .tuple [.str sR, x])) De.int rfl) Da.nil)) ⟨b, x, rfl, LB.T.pt hx, by omega, by omega, form_self hx⟩) Da.nil)))))
    | lane a =>
      cases hf
      obtain ⟨xs, rfl, h3, hx⟩ := ht
      have da := d_l (a := a)
      exact Dr.ifF (Dt.kindIs (k := kLane) (s := .lane a) (dv 0)) (Dr.ifF (Dt.kindIs (k := kLane) (s := .lane a) (dv 0)) (Dr.ifF (Dt.cast (Dt.inT (z := kLane) (zs := ["mark", "count"]) (De.kind (s := .lane a) (dv 0)) (De.tup (Da.cons De.str (Da.cons De.str Da.nil)))) (by decide +kernel))
        (Dr.next (found a xs h3 hx (by omega) (by omega) kLane (.lane a) rfl _ _ _ hr) (Dr.ret (De.tupleOf hfr (De.ifT (Dt.kindIs (k := kLane) (s := .lane a) (dv 0)) (dv 3 (d := .list xs))))))))
    | heap a =>
      obtain ⟨xs, ys, rfl, rfl, p, q⟩ := hf
      obtain ⟨xs', e, h3, hx⟩ := ht
      cases e
      have da := d_h (a := a)
      refine Dr.ifF (Dt.kindIs (k := kHeap) (s := .heap a) (dv 0)) (Dr.ifF (Dt.kindIs (k := kHeap) (s := .heap a) (dv 0)) (Dr.ifF (Dt.cast (Dt.inT (z := kHeap) (zs := ["mark", "count"]) (De.kind (s := .heap a) (dv 0)) (De.tup (Da.cons De.str (Da.cons De.str Da.nil)))) (by decide +kernel))
        (Dr.next (found a xs h3 hx (by omega) (by omega) kHeap (.heap a) rfl _ _ _ hr) (Dr.ret (De.tupleOf hfr (De.ifF (Dt.kindIs (k := kHeap) (s := .heap a) (dv 0)) ?_))))))
      refine De.sortL (k := 6) (j := 0) (p := "_law_part") (cn := "_law_sort") (kf := keyL a) (ds := xs) (cd := (S.heap a).enc) hfr LA (.inl (dv 3 (d := .list xs))) (by omega) (keyL_ord (by omega) hx) (hr.mono (by omega)) (lamP_by (sc := defScope sLF) (by decide +kernel)) rfl (fun d hd s2 H2 f2 c2 rk => ?_) fun ds' pm pw2 => sorted_lkey hx p q pm pw2
      exact De.call FK rk (Da.cons (De.ixT (k := 1) (d := a.enc) (De.enc (s := .heap a) (dv 1)) De.int rfl) (Da.cons (dv 0 (d := d)) Da.nil)) ⟨a, d, rfl, hx d hd, by omega, rfl⟩
end
end LB
end
section
set_option autoImplicit false
set_option Elab.async false
set_option linter.all false
set_option maxRecDepth 100000
set_option maxHeartbeats 4000000
/-! The matching's outer loop, turn by turn. -/
namespace LB
open PySem PySem.W PyProof.Rows
abbrev RF := List (List Nat) × List Nat
def stepM (e : Nat) (s : RF) : Option RF := match pickM s.1 e (s.1.getD e []) with
  | none => none
  | some none => some s
  | some (some (p, rows')) => some (rows', s.2 ++ [p])
/-- after k turns -/
def trM (rows : List (List Nat)) : Nat → Option RF
  | 0 => some (rows, [])
  | k + 1 => (trM rows k).bind (stepM k)
theorem outM_step {n e : Nat} {s : RF} : outM (n + 1) e s.1 s.2 = (stepM e s).bind fun s' => outM n (e + 1) s'.1 s'.2 := by
  unfold stepM
  rw [outM]
  cases pickM s.1 e (s.1.getD e []) with
  | none => rfl
  | some o =>
    cases o with
    | none => rfl
    | some q => rfl
theorem outM_tr {rows : List (List Nat)} : ∀ (k n : Nat), outM (k + n) 0 rows [] = (trM rows k).bind fun s => outM n k s.1 s.2
  | 0, n => by
    rw [Nat.zero_add]
    rfl
  | k + 1, n => by
    have z := outM_tr (rows := rows) k (n + 1)
    rw [show k + 1 + n = k + (n + 1) by omega, z]
    show _ = ((trM rows k).bind (stepM k)).bind _
    cases trM rows k with
    | none => rfl
    | some s =>
      show outM (n + 1) k s.1 s.2 = (stepM k s).bind _
      rw [outM_step]
theorem tr_some {rows : List (List Nat)} {m : Nat} {ps : List Nat} (h : outM m 0 rows [] = some ps) {k : Nat} (hk : k ≤ m) : ∃ s, trM rows k = some s := by
  have z := outM_tr (rows := rows) k (m - k)
  rw [show k + (m - k) = m by omega, h] at z
  cases e : trM rows k with
  | none => rw [e] at z; cases z
  | some s => exact ⟨s, rfl⟩
theorem tr_end {rows : List (List Nat)} {m : Nat} {ps : List Nat} (h : outM m 0 rows [] = some ps) : ∃ r, trM rows m = some (r, ps) := by
  have z := outM_tr (rows := rows) m 0
  rw [Nat.add_zero, h] at z
  cases e : trM rows m with
  | none => rw [e] at z; cases z
  | some s =>
    rw [e] at z
    have z : some ps = some s.2 := z
    cases z
    exact ⟨s.1, rfl⟩
theorem dropP_row {p : Nat} {rows : List (List Nat)} (h : ∀ r ∈ rows, r ∈ allRow) : ∀ r ∈ dropP p rows, r ∈ allRow := fun r hr => by
  obtain ⟨r0, h0, rfl⟩ := List.mem_map.mp hr
  exact filter_row (h r0 h0) _
/-- the inner loop: the places tried in vain, then the one taken -/
theorem pickM_no {rows : List (List Nat)} {e : Nat} : ∀ {ps : List Nat}, pickM rows e ps = some none → ∀ p ∈ ps, canM (dropP p (rows.drop (e + 1))) = some false
  | [], _, p, h => by cases h
  | q :: ps, h, p, hp => by
    unfold pickM at h
    cases c : canM (dropP q (rows.drop (e + 1))) with
    | none => rw [c] at h; cases h
    | some b =>
      rw [c] at h
      cases b with
      | true => cases h
      | false =>
        rcases List.mem_cons.mp hp with z | z
        · rw [z]; exact c
        · exact pickM_no h p z
theorem pickM_yes {rows rows' : List (List Nat)} {e p : Nat} : ∀ {ps : List Nat}, pickM rows e ps = some (some (p, rows')) → ∃ n, ps[n]? = some p ∧ (∀ (k q : Nat), k < n → ps[k]? = some q → canM (dropP q (rows.drop (e + 1))) = some false) ∧ canM (dropP p (rows.drop (e + 1))) = some true ∧ rows' = rows.take (e + 1) ++ dropP p (rows.drop (e + 1))
  | [], h => by cases h
  | q :: ps, h => by
    unfold pickM at h
    cases c : canM (dropP q (rows.drop (e + 1))) with
    | none => rw [c] at h; cases h
    | some b =>
      rw [c] at h
      cases b with
      | true =>
        cases h
        exact ⟨0, rfl, fun k q hk => by omega, c, rfl⟩
      | false =>
        obtain ⟨n, h1, h2, h3, h4⟩ := pickM_yes h
        refine ⟨n + 1, h1, fun k q' hk hq => ?_, h3, h4⟩
        cases k with
        | zero => cases hq; exact c
        | succ k => exact h2 k q' (by omega) hq
theorem step_rows {e : Nat} {s s' : RF} (h : stepM e s = some s') (ok : ∀ r ∈ s.1, r ∈ allRow) : s'.1.length = s.1.length ∧ ∀ r ∈ s'.1, r ∈ allRow := by
  unfold stepM at h
  cases c : pickM s.1 e (s.1.getD e []) with
  | none => rw [c] at h; cases h
  | some o =>
    rw [c] at h
    cases o with
    | none => cases h; exact ⟨rfl, ok⟩
    | some q =>
      obtain ⟨p, rows'⟩ := q
      cases h
      obtain ⟨n, _, _, _, er⟩ := pickM_yes c
      rw [er]
      refine ⟨?_, fun r hr => ?_⟩
      · show (s.1.take (e + 1) ++ dropP p (s.1.drop (e + 1))).length = _
        unfold dropP
        rw [List.length_append, List.length_map, List.length_take, List.length_drop]
        omega
      · rcases List.mem_append.mp hr with z | z
        · exact ok r (List.mem_of_mem_take z)
        · exact dropP_row (fun r hr => ok r (List.mem_of_mem_drop hr)) r z
theorem tr_rows {rows : List (List Nat)} (ok : ∀ r ∈ rows, r ∈ allRow) : ∀ {k : Nat} {s : RF}, trM rows k = some s → s.1.length = rows.length ∧ ∀ r ∈ s.1, r ∈ allRow
  | 0, s, h => by cases h; exact ⟨rfl, ok⟩
  | k + 1, s, h => by
    obtain ⟨s0, h0, h1⟩ := Option.bind_eq_some_iff.mp h
    obtain ⟨a, b⟩ := tr_rows ok h0
    obtain ⟨c, d⟩ := step_rows h1 b
    exact ⟨c.trans a, d⟩
end LB
end
section
set_option autoImplicit false
set_option Elab.async false
set_option linter.all false
set_option maxRecDepth 100000
set_option maxHeartbeats 4000000
/-! list + list, parts of lists. -/
namespace LB
open PySem PySem.Spec PyProof.Rows L2 LamX
def rCatS (K : PySem.W.Frag) : R2 := fun x y H Q => ∃ l b xs zs, x = .ref l ∧ y = .ref b ∧ SqL K H l xs ∧ SqL K H b zs ∧ xs.length + zs.length ≤ sizeLine ∧ ∀ p, H p = none → Q (.ref p) (upd H p (.lst (xs ++ zs)))
theorem op_catS {X : Cx} : OpR X (binaryOp .Add) (rCatS X.K) := by
  rintro pins s σ H x y v u Q I rx ry ⟨l, b, xs, zs, rfl, rfl, hl, hb, hz, q⟩
  cases rx
  cases ry
  obtain ⟨us, r1, ⟨⟨c1, d1, t1, s1⟩, n1, e1, a1, a2, a3⟩, z1⟩ := I.list hl
  obtain ⟨ws, r2, ⟨⟨c2, d2, t2, s2⟩, n2, e2, b1, b2, b3⟩, z2⟩ := I.list hb
  simp only at a1 a2 a3 b1 b2 b3
  subst a1 a2 a3 b1 b2 b3
  have l1 := r1.length
  have l2 := r2.length
  refine concat_meets ⟨_, e1, rfl⟩ ⟨_, e2, rfl⟩ noFill_list_add seq_list_add PySem.F.slot_list_add PySem.F.entry_list_add (PySem.F.args_list_add_2 _ _) (list_addW l b us.toArray ws.toArray n1 n2 none none s1 s2 (by rw [List.size_toArray, List.size_toArray]; omega)) ⟨e1, e2, ?_⟩
  have ea : us.toArray ++ ws.toArray = (us ++ ws).toArray := by simp
  rw [ea]
  exact ⟨.ref _, _, I.lnew (t' := s.toks) (r1.append r2) (by rw [List.length_append]; exact hz), rfl, q _ I.fresh⟩
section
variable {X : Cx} {T : List (Addr × Str)} {δ : List (Option PyData)} {a b : Expr} {pos p4 : Pos} {ds es : List PyData}
theorem dpAll_app {K : PySem.W.Frag} {H : Hp} : ∀ {vs ws : List V} {ds es : List PyData}, DpAll K H vs ds → DpAll K H ws es → DpAll K H (vs ++ ws) (ds ++ es)
  | [], _, _, _, h1, h2 => by cases h1; exact h2
  | v :: vs, _, _, _, h1, h2 => by
    cases h1 with
    | cons a b => exact .cons a (dpAll_app b h2)
theorem dpAll_take {K : PySem.W.Frag} {H : Hp} : ∀ (k : Nat) {vs : List V} {ds : List PyData}, DpAll K H vs ds → DpAll K H (vs.take k) (ds.take k)
  | 0, _, _, _ => by rw [List.take_zero, List.take_zero]; exact .nil
  | k + 1, _, _, .nil => by simp; exact .nil
  | k + 1, _, _, .cons a t => .cons a (dpAll_take k t)
theorem De.catL (ha : De X T δ a (.list ds)) (hb : De X T δ b (.list es)) (hn : ds.length + es.length ≤ 1000) : De X T δ (.BinOp a .Add b pos) (.list (ds ++ es)) :=
  De.of (pe_op op_catS pe_ev pe_ev) fun σ H Q hl hd t q => ha.go hl hd t fun x H1 g1 d1 => hb.go hl (hd.gw g1) g1.2 fun y H2 g2 d2 => by
    cases Dp.gw g2 _ _ d1 with
    | @lst p xs _ hs hv =>
      cases d2 with
      | @lst p2 ys _ hs2 hv2 =>
        have l1 := dpAll_len hv
        have l2 := dpAll_len hv2
        refine ⟨p, p2, xs, ys, rfl, rfl, hs, hs2, by rw [sizeLine_eq]; omega, fun r hr => ?_⟩
        have z := lay_lst hr (dpAll_app hv hv2) g2.2
        exact q _ _ ((g1.trans g2).trans z.1) z.2
/-- l[k:] -/
theorem De.cutLo {k : Nat} (ha : De X T δ a (.list ds)) (hb : De X T δ b (.int (k : Nat))) (hn : ds.length ≤ 1000) : De X T δ (.Subscript a (.Slice (some b) none none p4) pos) (.list (ds.drop k)) :=
  De.of (pe_slice sl_list pe_ev (po_some pe_ev) po_none) fun σ H Q hl hd t q => ha.go hl hd t fun x H1 g1 d1 => hb.go hl (hd.gw g1) g1.2 fun y H2 g2 d2 => by
    cases d2
    cases Dp.gw g2 _ _ d1 with
    | @lst p xs _ hs hv =>
      refine ⟨(k : Int), rfl, p, xs, rfl, hs, fun r hr => ?_⟩
      have e : cutV xs (some (k : Int)) none = xs.drop k := by
        unfold cutV
        rw [HT.sIx_nat, HT.sIx_none]
        rcases Nat.le_total k xs.length with h | h
        · rw [Nat.min_eq_left h, List.take_of_length_le (by rw [List.length_drop]; exact Nat.le_refl _)]
        · rw [Nat.min_eq_right h, Nat.sub_self, List.take_zero, List.drop_eq_nil_of_le h]
      rw [e]
      have z := lay_lst hr (dpAll_drop k hv) g2.2
      exact q _ _ ((g1.trans g2).trans z.1) z.2
/-- l[:k] -/
theorem De.cutUp {k : Nat} (ha : De X T δ a (.list ds)) (hb : De X T δ b (.int (k : Nat))) (hn : ds.length ≤ 1000) : De X T δ (.Subscript a (.Slice none (some b) none p4) pos) (.list (ds.take k)) :=
  De.of (pe_slice sl_list pe_ev po_none (po_some pe_ev)) fun σ H Q hl hd t q => ha.go hl hd t fun x H1 g1 d1 => hb.go hl (hd.gw g1) g1.2 fun y H2 g2 d2 => by
    cases d2
    cases Dp.gw g2 _ _ d1 with
    | @lst p xs _ hs hv =>
      refine ⟨(k : Int), rfl, p, xs, rfl, hs, fun r hr => ?_⟩
      have e : cutV xs none (some (k : Int)) = xs.take k := by
        unfold cutV
        rw [HT.sIx_nat, HT.sIx_none, List.drop_zero, Nat.sub_zero]
        rcases Nat.le_total k xs.length with h | h
        · rw [Nat.min_eq_left h]
        · rw [Nat.min_eq_right h, List.take_of_length_le (Nat.le_refl _), List.take_of_length_le h]
      rw [e]
      have z := lay_lst hr (dpAll_take k hv) g2.2
      exact q _ _ ((g1.trans g2).trans z.1) z.2
end
end LB
end
section
set_option autoImplicit false
set_option Elab.async false
set_option linter.all false
set_option maxRecDepth 100000
set_option maxHeartbeats 4000000
/-! Walks: unlike_places. -/
namespace LB
open PySem PySem.Spec PySem.W PyProof.Rows L2 LamX
def rowD (r : List Nat) : PyData := .list (r.map fun p => .int (p : Nat))
def RCan (ds : List PyData) (d : PyData) : Prop := ∃ (rows : List (List Nat)) (b : Bool), ds = [.list (rows.map rowD)] ∧ rows.length ≤ 3 ∧ (∀ r ∈ rows, r ∈ allRow) ∧ canM rows = some b ∧ d = .bool b
def compScope : Expr → Scope
  | .ListComp _ _ s _ => s
  | _ => { kind := .function, names := [], isGenerator := false, isCoroutine := false }
/-- a block's names as its own block sees them -/
def relB (s o : Scope) : Scope := { s with names := s.names.map fun (n, k) => if (k == NameKind.free && o.kind == .function && o.names.lookup n == some .cell) then (n, NameKind.cell) else (n, k) }
def asgE : Stmt → Expr
  | .Assign _ e _ => e
  | _ => .Constant .none 0 ⟨0, 0, 0, 0⟩
theorem allRow_len {r : List Nat} (h : r ∈ allRow) : r.length ≤ 3 := by
  simp only [allRow, List.mem_cons, List.not_mem_nil, or_false] at h
  rcases h with rfl | rfl | rfl | rfl | rfl | rfl | rfl | rfl <;> decide
theorem filt_ints (q : Nat → Bool) : ∀ l : List Nat, l.filterMap (fun j => if q j = true then some (PyData.int (j : Nat)) else none) = (l.filter q).map fun p => .int (p : Nat)
  | [] => rfl
  | x :: l => by
    rw [List.filterMap_cons, List.filter_cons, filt_ints q l]
    cases q x <;> simp
theorem filt_ne (q : Nat) : ∀ l : List Nat, (l.map fun p => PyData.int (p : Nat)).filterMap (fun d => match d with | .int i => if (!decide (i = (q : Int))) = true then some d else none | _ => none) = (l.filter fun p => decide (p ≠ q)).map fun p => .int (p : Nat)
  | [] => rfl
  | x :: l => by
    rw [List.map_cons, List.filterMap_cons, List.filter_cons, filt_ne q l]
    by_cases c : x = q
    · simp [c]
    · have c2 : ¬ ((x : Int) = (q : Int)) := by omega
      simp [c, c2]
theorem tr_found {rows : List (List Nat)} : ∀ {k : Nat} {s : RF}, trM rows k = some s → s.2.length ≤ k
  | 0, s, h => by cases h; exact Nat.le_refl _
  | k + 1, s, h => by
    obtain ⟨s0, h0, h1⟩ := Option.bind_eq_some_iff.mp h
    have a := tr_found h0
    unfold stepM at h1
    cases c : pickM s0.1 k (s0.1.getD k []) with
    | none => rw [c] at h1; cases h1
    | some o =>
      rw [c] at h1
      cases o with
      | none => cases h1; omega
      | some q =>
        obtain ⟨p, rows'⟩ := q
        cases h1
        show (s0.2 ++ [p]).length ≤ _
        rw [List.length_append, List.length_singleton]
        omega
section
variable {P : Program} {w : World} {K : PySem.W.Frag} {mg : Str → Option Value} {base : Heap} {T : List (Addr × Str)} {f : Addr} {fd : FuncData}
abbrev sUnl : Stmt := top 42
abbrev nUnl : List Str := ["sort", "v", "u", "one", "place", "other", "rows", "found", "element", "row", "rest"]
theorem sc_unl : FnScope nUnl ["sort", "v", "u"] (defScope sUnl) := ⟨rfl, rfl, rfl, by decide +kernel, rfl, by decide +kernel, by decide +kernel⟩
theorem w_unl {n k : Nat} (hk : 20 ≤ k) (F : Fun K "unlike_places" "unlike_places" sUnl f fd) (hm : mg "unlike_places" = some (.ref f)) (hb : Binds K fd ["sort", "v", "u"] []) (G : Gb w mg K) (FC : Fd P w K mg base T 20 "can_be_placed" RCan) (FH : Fd P w K mg base T k "raw_holds" (RHold n)) : Fd P w K mg base T (k + 1) "unlike_places" (RUnl n) := by
  refine Fd.mk (m := 8) F hm hb sc_unl (fun ds d ⟨_, _, _, e, _⟩ => by rw [e]; rfl) fun cdv A outer s H E ds d hr ⟨a, vs, us, e1, hv3, hu3, hv, hu, hn, e2⟩ => ?_
  subst e1 e2
  have hfr := G.fr
  have rl : (rowsOf a vs us).length = us.length := by unfold rowsOf; rw [List.length_map]
  have rok : ∀ r ∈ rowsOf a vs us, r ∈ allRow := fun r hr => by
    obtain ⟨u, _, rfl⟩ := List.mem_map.mp hr
    exact range_row hv3 _
  refine Dr.next (Dn1.ofS (i := 6) (Ds.lcm (es := (rowsOf a vs us).map rowD) rfl sc_unl.nd (src_t (i := 3) (dv 2 (d := .tuple us)) (fun _ _ _ _ _ => pg_name sc_unl.nd rfl (Or.inr rfl))) ?_ ?_ (fun j b e hb he s2 H2 C cl fp => ?_)
    (blkOk_by (N := nUnl) (sc := defScope sUnl) (own := [("one", 3)]) (by decide +kernel)) (sw_true rfl rfl rfl rfl)) (by show 6 < 11; decide)) ?_
  · rw [ones_len, List.length_map, rl]
  · rw [ones_len]
    omega
  · obtain ⟨u, hu2, rfl⟩ := ones_at hb
    have hmu := List.mem_of_getElem? hu2
    unfold rowsOf at he
    rw [List.map_map, List.getElem?_map, hu2] at he
    cases he
    refine De.cast (De.lc (ok := fun δ b => TstOk _ T _ δ _ b) (own := [("place", 4), ("other", 5)]) (out := fun j => if hB a (vs.getD j .none) u = true then some (.int (j : Nat)) else none) rfl sc_unl.nd (src_et (i := 4) (j := 5) hfr (dv 1 (d := .tuple vs)) (fun _ _ _ _ _ => pg_tup rfl (pgs_cons (pg_name sc_unl.nd rfl (Or.inl rfl)) (pgs_cons (pg_name sc_unl.nd rfl (Or.inl rfl)) pgs_nil)))) ift_one ?_
      (fun j b hb s3 H3 C3 cl3 fp3 => ?_) (fun j b e hb he s3 H3 C3 cl3 fp3 => ?_) (blkOk_by (N := nUnl) (sc := relB (compScope (asgE ((defBody sUnl).getD 0 (.Pass ⟨0, 0, 0, 0⟩)))) (defScope sUnl)) (own := [("place", 4), ("other", 5)]) (by decide +kernel))) ?_
    · rw [enums_len]
      omega
    · obtain ⟨v, hv2, rfl⟩ := enums_at hb
      have e0 : vs.getD j .none = v := by rw [List.getD_eq_getElem?_getD, hv2]; rfl
      rw [e0]
      refine Dt.cast (Dt.val (De.call FH hr (Da.cons (dv 0 (d := a.enc)) (Da.cons (dv 5 (d := v)) (Da.cons (dv 3 (d := u)) Da.nil))) ⟨a, v, u, rfl, hv v (List.mem_of_getElem? hv2), hu u hmu, hn, rfl⟩)) ?_
      cases hB a v u <;> rfl
    · obtain ⟨v, hv2, rfl⟩ := enums_at hb
      have ee : PyData.int (j : Nat) = e := by
        split at he
        · exact Option.some.inj he
        · cases he
      exact De.cast (dv 4 (d := .int (j : Nat))) ee
    · rw [enums_len, filt_ints]
      rfl
  let dl : List (List Nat) → List (Option PyData) := fun rows => [some a.enc, some (.tuple vs), some (.tuple us), none, none, none, some (.list (rows.map rowD)), none, none, none, none]
  show Dr _ T (dl (rowsOf a vs us)) _ _
  obtain ⟨o, eo, _⟩ := unlike_ok (rowsOf_ok (a := a) hv3 hu3)
  rw [eo]
  show Dr _ T (dl (rowsOf a vs us)) _ (plD o)
  obtain ⟨b, hcan⟩ := can_some (rowsOf_ok (a := a) hv3 hu3)
  cases b with
  | false =>
    have e0 : o = none := by
      unfold unlikeM at eo
      rw [hcan] at eo
      exact (Option.some.inj eo).symm
    subst e0
    exact Dr.ifT (Dt.not (b := false) (Dt.val (De.call (FC.mono hk) hr (Da.cons (dv 6 (d := .list ((rowsOf a vs us).map rowD))) Da.nil) ⟨_, false, rfl, by omega, rok, hcan, rfl⟩))) (Dr.ret De.non)
  | true =>
    have e0 : ∃ ps, outM (rowsOf a vs us).length 0 (rowsOf a vs us) [] = some ps ∧ o = some ps := by
      unfold unlikeM at eo
      rw [hcan] at eo
      have eo : (outM (rowsOf a vs us).length 0 (rowsOf a vs us) []).map some = some o := eo
      obtain ⟨ps, h1, h2⟩ := Option.map_eq_some_iff.mp eo
      exact ⟨ps, h1, h2.symm⟩
    obtain ⟨ps, hout, rfl⟩ := e0
    refine Dr.ifF (Dt.not (b := true) (Dt.val (De.call (FC.mono hk) hr (Da.cons (dv 6 (d := .list ((rowsOf a vs us).map rowD))) Da.nil) ⟨_, true, rfl, by omega, rok, hcan, rfl⟩))) ?_
    refine Dr.start (i := 7) sc_unl.nd Da.nil (by show 0 ≤ 1000; decide) ?_ (fun d h => by cases h)
    let st : Nat → RF := fun k => (trM (rowsOf a vs us) k).getD (rowsOf a vs us, [])
    let S : Nat → Stt := fun k => (dl (st k).1, (st k).2.map fun p => .int (p : Nat))
    have stE : ∀ k, k ≤ (rowsOf a vs us).length → trM (rowsOf a vs us) k = some (st k) := fun k hk => by
      obtain ⟨s, hs⟩ := tr_some hout hk
      show _ = some ((trM (rowsOf a vs us) k).getD _)
      rw [hs]
      rfl
    have fin : (st (rowsOf a vs us).length).2 = ps := by
      obtain ⟨r, hr⟩ := tr_end hout
      show ((trM (rowsOf a vs us) (rowsOf a vs us).length).getD _).2 = ps
      rw [hr]
      rfl
    have lenR : ((rowsOf a vs us).map rowD).length = (rowsOf a vs us).length := List.length_map ..
    refine Axs.cons (Ax.forR (j := 8) (n := (rowsOf a vs us).length) (m := (rowsOf a vs us).length) hfr PassesOwn.never rfl S rfl (De.cast (De.lenL hfr (dv 6 (d := .list ((rowsOf a vs us).map rowD)))) (by rw [lenR])) (by omega) (Nat.le_refl _) (fun e he => ?_) (.inl ⟨by rw [upto_len], rfl⟩) (hg := pg_name sc_unl.nd rfl (Or.inl rfl))) (Axs.rt ?_)
    · have h1 := stE e (Nat.le_of_lt he)
      have h2 := stE (e + 1) he
      have h3 : stepM e (st e) = some (st (e + 1)) := by
        have z : (trM (rowsOf a vs us) e).bind (stepM e) = some (st (e + 1)) := h2
        rw [h1] at z
        exact z
      obtain ⟨len1, ok1⟩ := tr_rows rok h1
      have hrow : (st e).1[e]? = some ((st e).1.getD e []) := by
        rw [List.getD_eq_getElem?_getD, List.getElem?_eq_getElem (by omega)]
        rfl
      have mrow := ok1 _ (List.mem_of_getElem? hrow)
      let d1 : List (Option PyData) := [some a.enc, some (.tuple vs), some (.tuple us), none, none, none, some (.list ((st e).1.map rowD)), none, some (.int (e : Nat)), none, none]
      let as : List PyData := (st e).2.map fun p => .int (p : Nat)
      show Axs _ T 7 d1 as _ _
      have few1 : (((st e).1.map rowD).drop (e + 1)).length ≤ 3 := by
        rw [List.length_drop, List.length_map]
        omega
      have restS : ∀ q : Nat, Ds (cxOf CX0 P w K mg base nUnl "unlike_places" (defScope sUnl) f cdv A outer s H E).nox T (d1.set 4 (some (.int (q : Nat)))) ((forBody ((forBody ((defBody sUnl).getD 3 (.Pass ⟨0, 0, 0, 0⟩))).getD 0 (.Pass ⟨0, 0, 0, 0⟩))).getD 0 (.Pass ⟨0, 0, 0, 0⟩)) 10
          (.list ((dropP q ((st e).1.drop (e + 1))).map rowD)) := by
        intro q
        refine Ds.lcm (es := (dropP q ((st e).1.drop (e + 1))).map rowD) rfl sc_unl.nd (src_l (i := 9) (ds := ((st e).1.map rowD).drop (e + 1)) (De.cutLo (k := e + 1) (dv 6 (d := .list ((st e).1.map rowD))) (De.cast (De.add (dv 8 (d := .int (e : Nat))) De.int) rfl) (by rw [List.length_map]; omega)) (fun _ _ _ _ _ => pg_name sc_unl.nd rfl (Or.inl rfl))) ?_ ?_ (fun j b x hb hx s2 H2 C cl fp => ?_)
          (blkOk_by (N := nUnl) (sc := defScope sUnl) (own := [("row", 9)]) (by decide +kernel)) (sw_true rfl rfl rfl rfl)
        · rw [ones_len, List.length_map]
          unfold dropP
          rw [List.length_map, List.length_drop, List.length_drop, List.length_map]
        · rw [ones_len]
          omega
        · obtain ⟨d, hd, rfl⟩ := ones_at hb
          rw [List.getElem?_drop, List.getElem?_map] at hd
          obtain ⟨r, hr2, rfl⟩ := Option.map_eq_some_iff.mp hd
          have mr := ok1 r (List.mem_of_getElem? hr2)
          have rlen := allRow_len mr
          unfold dropP at hx
          rw [List.map_map, List.getElem?_map, List.getElem?_drop, hr2] at hx
          cases hx
          refine De.cast (De.lc (ok := fun δ b => TstOk _ T _ δ _ b) (own := [("one", 3)]) (out := fun j => (r.map fun p => PyData.int (p : Nat))[j]?.bind fun d => match d with | .int i => if (!decide (i = (q : Int))) = true then some d else none | _ => none) rfl sc_unl.nd
            (src_l (i := 3) (ds := r.map fun p => .int (p : Nat)) (dv 9 (d := rowD r)) (fun _ _ _ _ _ => pg_name sc_unl.nd rfl (Or.inl rfl))) ift_one ?_ (fun j2 b2 hb2 s3 H3 C3 cl3 fp3 => ?_) (fun j2 b2 e2 hb2 he2 s3 H3 C3 cl3 fp3 => ?_)
            (blkOk_by (N := nUnl) (sc := relB (compScope (asgE ((forBody ((forBody ((defBody sUnl).getD 3 (.Pass ⟨0, 0, 0, 0⟩))).getD 0 (.Pass ⟨0, 0, 0, 0⟩))).getD 0 (.Pass ⟨0, 0, 0, 0⟩)))) (defScope sUnl)) (own := [("one", 3)]) (by decide +kernel))) ?_
          · rw [ones_len, List.length_map]
            omega
          · obtain ⟨d2, hd2, rfl⟩ := ones_at hb2
            rw [hd2]
            rw [List.getElem?_map] at hd2
            obtain ⟨i, _, rfl⟩ := Option.map_eq_some_iff.mp hd2
            refine Dt.cast (Dt.neI (dv 3 (d := .int (i : Nat))) (dv 4 (d := .int (q : Nat)))) ?_
            show _ = Option.isSome (if (!decide ((i : Int) = (q : Int))) = true then some (PyData.int (i : Nat)) else none)
            cases (!decide ((i : Int) = (q : Int))) <;> rfl
          · obtain ⟨d2, hd2, rfl⟩ := ones_at hb2
            rw [hd2] at he2
            rw [List.getElem?_map] at hd2
            obtain ⟨i, _, rfl⟩ := Option.map_eq_some_iff.mp hd2
            have he2 : (if (!decide ((i : Int) = (q : Int))) = true then some (PyData.int (i : Nat)) else none) = some e2 := he2
            have ee : PyData.int (i : Nat) = e2 := by
              split at he2
              · exact Option.some.inj he2
              · cases he2
            exact De.cast (dv 3 (d := .int (i : Nat))) ee
          · rw [ones_len, range_bind, filt_ne]
            rfl
      let q1 : Nat → List (Option PyData) := fun q => (d1.set 4 (some (.int (q : Nat)))).set 10 (some (.list ((dropP q ((st e).1.drop (e + 1))).map rowD)))
      have lenD : ∀ q, (dropP q ((st e).1.drop (e + 1))).length ≤ 3 := fun q => by
        unfold dropP
        rw [List.length_map, List.length_drop]
        omega
      have call : ∀ (q : Nat) (b : Bool), canM (dropP q ((st e).1.drop (e + 1))) = some b → RCan [.list ((dropP q ((st e).1.drop (e + 1))).map rowD)] (.bool b) := fun q b hb => ⟨_, b, rfl, lenD q, dropP_row fun r hr => ok1 r (List.mem_of_mem_drop hr), hb, rfl⟩
      have few2 : (st e).2.length ≤ 100 → as.length < 1000 := fun h => by
        show ((st e).2.map _).length < 1000
        rw [List.length_map]
        omega
      have no : ∀ q : Nat, canM (dropP q ((st e).1.drop (e + 1))) = some false → Axs (cxOf CX0 P w K mg base nUnl "unlike_places" (defScope sUnl) f cdv A outer s H E).nox T 7 (d1.set 4 (some (.int (q : Nat)))) as (forBody ((forBody ((defBody sUnl).getD 3 (.Pass ⟨0, 0, 0, 0⟩))).getD 0 (.Pass ⟨0, 0, 0, 0⟩))) (.nx d1 as) := fun q hq =>
        Axs.cons (Ax.ofS (restS q) (by show 10 < 11; decide)) (Axs.weak (Axs.cons (Ax.ifF (Dt.val (De.call (FC.mono hk) hr (Da.cons (dv 10 (d := .list ((dropP q ((st e).1.drop (e + 1))).map rowD))) Da.nil) (call q false hq)))) Axs.nil) (by exact Sub.tl (Sub.tl (Sub.tl (Sub.tl (Sub.no (Sub.tl (Sub.tl (Sub.tl (Sub.tl (Sub.tl (Sub.no Sub.ni))))))))))))
      have few3 : as.length < 1000 := few2 (by have := tr_found h1; omega)
      have hrow2 : ((st e).1.map rowD)[e]? = some (rowD ((st e).1.getD e [])) := by
        rw [List.getElem?_map, hrow]
        rfl
      have h3' := h3
      unfold stepM at h3'
      cases c : pickM (st e).1 e ((st e).1.getD e []) with
      | none => rw [c] at h3'; cases h3'
      | some o =>
        rw [c] at h3'
        cases o with
        | none =>
          have e1 : st (e + 1) = st e := (Option.some.inj h3').symm
          have non := pickM_no c
          show Axs _ T 7 d1 as _ (.nx (dl (st (e + 1)).1) ((st (e + 1)).2.map fun p => .int (p : Nat)))
          rw [e1]
          refine Axs.weak (Axs.cons (Ax.for_ (j := 4) (n := ((st e).1.getD e []).length) (ds := ((st e).1.getD e []).map fun p => .int (p : Nat)) PassesOwn.never rfl (fun _ => (d1, as)) rfl (.inr (De.ixL (k := e) (d := rowD ((st e).1.getD e [])) (dv 6 (d := .list ((st e).1.map rowD))) (dv 8 (d := .int (e : Nat))) hrow2)) (by rw [List.length_map]; exact Nat.le_refl _) (fun k d hk hd => ?_) (.inl ⟨by rw [List.length_map], rfl⟩) (hg := pg_name sc_unl.nd rfl (Or.inr rfl))) Axs.nil) (by exact Sub.tl (Sub.tl (Sub.tl (Sub.tl (Sub.tl (Sub.tl (Sub.tl (Sub.tl (Sub.no (Sub.tl (Sub.tl Sub.ni)))))))))))
          rw [List.getElem?_map] at hd
          obtain ⟨q, hq, rfl⟩ := Option.map_eq_some_iff.mp hd
          exact no q (non q (List.mem_of_getElem? hq))
        | some pr =>
          obtain ⟨p, rows'⟩ := pr
          have e1 : st (e + 1) = (rows', (st e).2 ++ [p]) := (Option.some.inj h3').symm
          obtain ⟨n, hn1, hn2, hn3, hn4⟩ := pickM_yes c
          show Axs _ T 7 d1 as _ (.nx (dl (st (e + 1)).1) ((st (e + 1)).2.map fun p => .int (p : Nat)))
          rw [e1]
          have nlt := (List.getElem?_eq_some_iff.mp hn1).1
          have asE : ((st e).2 ++ [p]).map (fun p => PyData.int (p : Nat)) = as ++ [.int (p : Nat)] := by rw [List.map_append]; rfl
          have rowsE : ((st e).1.map rowD).take (e + 1) ++ (dropP p ((st e).1.drop (e + 1))).map rowD = rows'.map rowD := by
            rw [hn4, List.map_append, List.map_take]
          show Axs _ T 7 d1 as _ (.nx (dl rows') (((st e).2 ++ [p]).map fun p => .int (p : Nat)))
          rw [asE]
          refine Axs.weak (δ₁ := (q1 p).set 6 (some (.list (rows'.map rowD)))) (Axs.cons (Ax.for_ (j := 4) (n := n) (ds := ((st e).1.getD e []).map fun p => .int (p : Nat)) PassesOwn.never rfl (fun _ => (d1, as)) rfl (.inr (De.ixL (k := e) (d := rowD ((st e).1.getD e [])) (dv 6 (d := .list ((st e).1.map rowD))) (dv 8 (d := .int (e : Nat))) hrow2)) (by rw [List.length_map]; omega) (fun k d hk hd => ?_) (.inr ⟨.int (p : Nat), by rw [List.getElem?_map, hn1]; rfl, .inr ⟨_, _, rfl, ?_⟩⟩) (hg := pg_name sc_unl.nd rfl (Or.inr rfl))) Axs.nil) (by exact Sub.tl (Sub.tl (Sub.tl (Sub.tl (Sub.no (Sub.tl (Sub.tl (Sub.tl (Sub.no (Sub.tl (Sub.no Sub.ni)))))))))))
          · rw [List.getElem?_map] at hd
            obtain ⟨q, hq, rfl⟩ := Option.map_eq_some_iff.mp hd
            exact no q (hn2 k q hk hq)
          · exact Axs.cons (Ax.ofS (restS p) (by show 10 < 11; decide)) (Axs.bk (Ax.ifT (Dt.val (De.call (FC.mono hk) hr (Da.cons (dv 10 (d := .list ((dropP p ((st e).1.drop (e + 1))).map rowD))) Da.nil) (call p true hn3)))
              (Axs.cons (Ax.app (dv 4 (d := .int (p : Nat))) few3) (Axs.cons (Ax.set (j := 6) sc_unl.nd (De.cast (De.catL (De.cutUp (k := e + 1) (dv 6 (d := .list ((st e).1.map rowD))) (De.cast (De.add (dv 8 (d := .int (e : Nat))) De.int) rfl) (by rw [List.length_map]; omega)) (dv 10 (d := .list ((dropP p ((st e).1.drop (e + 1))).map rowD))) (by
                have := lenD p
                rw [List.length_take, List.length_map, List.length_map]
                omega)) (congrArg PyData.list rowsE))) (Axs.bk Ax.brk)))))
    · show Ax _ T 7 _ ((st (rowsOf a vs us).length).2.map fun p => .int (p : Nat)) _ (.rt (plD (some ps)))
      rw [fin]
      exact Ax.retT hfr
end
end LB
end
section
set_option autoImplicit false
set_option Elab.async false
set_option linter.all false
set_option maxRecDepth 100000
set_option maxHeartbeats 4000000
/-! Two dicts of ours are set aside; the matching's dicts. -/
namespace LB
open PySem PySem.Spec PyProof.Rows L2 LamX
theorem hid_comm {H : Hp} {a b : Addr} : hid (hid H a) b = hid (hid H b) a := by
  funext c
  by_cases h1 : c = a
  · by_cases h2 : c = b
    · subst h2 h1
      rfl
    · subst h1
      rw [hid_ne h2, hid_self, hid_self]
  · by_cases h2 : c = b
    · subst h2
      rw [hid_self, hid_ne h1, hid_self]
    · rw [hid_ne h2, hid_ne h1, hid_ne h1, hid_ne h2]
abbrev hid2 (H : Hp) (a b : Addr) : Hp := hid (hid H a) b
section
variable {T : List (Addr × Str)} {H0 H H' : Hp} {D : Addr} {o : HO}
theorem mv_nd (m : Mv o) : Nd o := by
  cases o <;> first | exact True.intro | exact False.elim m
/-- growth beside a thing of ours is growth -/
theorem Gw.unM (g : Gw T H0 (LB.hid H D)) (h : H D = some o) (m : Mv o) : Gw T H0 H := by
  refine ⟨fun b o e n => (hid_some (g.1 b o e n)).1, fun p hp => ?_, fun a u e => ?_⟩
  · obtain ⟨ps, a1, a2, a3⟩ := g.2.1 p hp
    refine ⟨ps, (hid_some a1).1, a2, fun pos cv hc => ?_⟩
    obtain ⟨c, e1, e2⟩ := a3 pos cv hc
    exact ⟨c, e1, (hid_some e2).1⟩
  · by_cases cd : a = D
    · subst cd
      rw [h] at e
      rw [← Option.some.inj e]
      exact mv_nd m
    · exact g.2.2 a u ((hid_ne cd).trans e)
theorem Gw.un2 {a b : Addr} {o1 o2 : HO} (g : Gw T H0 (hid2 H a b)) (ha : H a = some o1) (hb : H b = some o2) (ne : a ≠ b) (m1 : Mv o1) (m2 : Mv o2) : Gw T H0 H :=
  Gw.unM (Gw.unM g ((hid_ne (Ne.symm ne)).trans hb) m2) ha m1
theorem hid2_updB {a b : Addr} {o : HO} (ne : a ≠ b) : hid2 (upd H b o) a b = hid2 H a b := by
  show hid (hid (upd H b o) a) b = _
  rw [hid_comm, hid_upd, hid_comm]
theorem hid2_updA {a b : Addr} {o : HO} : hid2 (upd H a o) a b = hid2 H a b := by
  show hid (hid (upd H a o) a) b = _
  rw [hid_upd]
end
section
variable {X : Cx} {T : List (Addr × Str)} {B0 H H' : Hp} {gi si j : Nat} {δ δ' : List (Option PyData)} {σ : L2.St} {G S : Addr} {g g' s s' : List (Key × V)} {e : Expr} {d : PyData} {v : V}
/-- two slots hold dicts of ours; the rest is read with both set aside -/
structure A2 (X : Cx) (T : List (Addr × Str)) (B0 : Hp) (gi si : Nat) (δ : List (Option PyData)) (G S : Addr) (g s : List (Key × V)) (σ : L2.St) (H : Hp) : Prop where
  len : σ.length = X.N.length
  sg : σ[gi]? = some (some (.ref G))
  ss : σ[si]? = some (some (.ref S))
  ne : G ≠ S
  hg : H G = some (.dK g)
  hs : H S = some (.dK s)
  ds : DS X.K (hid2 H G S) σ δ
  gw : Gw T B0 (hid2 H G S)
theorem A2.ev {Q : VK} (a : A2 X T B0 gi si δ G S g s σ H) (h : De X T δ e d) (q : ∀ v H', Gw T (hid2 H G S) (hid2 H' G S) → A2 X T B0 gi si δ G S g s σ H' → Dp X.K (hid2 H' G S) v d → Q v H') : evT X e σ H Q := by
  refine evT.mono (evT.frame a.hg True.intro (evT.frame (H := hid H G) (D := S) ((hid_ne (Ne.symm a.ne)).trans a.hs) True.intro (h σ _ a.len a.ds a.gw.2))) fun v H' ⟨H1, ⟨H2, ⟨g2, d2⟩, n2, e1⟩, n1, e2⟩ => ?_
  have hh : hid2 H' G S = H2 := by
    rw [e2]
    show hid (hid (upd H1 G _) G) S = H2
    rw [hid_upd, hid_none n1, e1, hid_upd, hid_none n2]
  have ne1 : S ≠ G := Ne.symm a.ne
  refine q v H' (hh ▸ g2) ⟨a.len, a.sg, a.ss, a.ne, by rw [e2, upd_same], ?_, ?_, ?_⟩ (hh ▸ d2)
  · rw [e2, upd_ne ne1, e1, upd_same]
  · rw [hh]
    exact a.ds.gw g2
  · rw [hh]
    exact a.gw.trans g2
theorem A2.weak (a : A2 X T B0 gi si δ G S g s σ H) (w : Sub δ' δ) : A2 X T B0 gi si δ' G S g s σ H := { a with ds := a.ds.weak w }
theorem A2.base {B1 : Hp} (a : A2 X T B1 gi si δ G S g s σ H) (w : Gw T B0 B1) : A2 X T B0 gi si δ G S g s σ H := { a with gw := w.trans a.gw }
theorem A2.put (a : A2 X T B0 gi si δ G S g s σ H) (hj : j < σ.length) (n1 : j ≠ gi) (n2 : j ≠ si) (dv : Dp X.K (hid2 H G S) v d) : A2 X T B0 gi si (δ.set j (some d)) G S g s (σ.set j (some v)) H :=
  { a with len := by rw [List.length_set]; exact a.len, sg := by rw [List.getElem?_set_ne n1]; exact a.sg, ss := by rw [List.getElem?_set_ne n2]; exact a.ss, ds := a.ds.set hj dv }
theorem A2.setS (a : A2 X T B0 gi si δ G S g s σ H) : A2 X T B0 gi si δ G S g s' σ (upd H S (.dK s')) :=
  { a with hg := (upd_ne a.ne).trans a.hg, hs := upd_same, ds := by rw [hid2_updB a.ne]; exact a.ds, gw := by rw [hid2_updB a.ne]; exact a.gw }
theorem A2.setG (a : A2 X T B0 gi si δ G S g s σ H) : A2 X T B0 gi si δ G S g' s σ (upd H G (.dK g')) :=
  { a with hg := upd_same, hs := (upd_ne (Ne.symm a.ne)).trans a.hs, ds := by rw [hid2_updA]; exact a.ds, gw := by rw [hid2_updA]; exact a.gw }
theorem A2.up (a : A2 X T B0 gi si δ G S g s σ H) : Gw T B0 H := Gw.un2 a.gw a.hg a.hs a.ne True.intro True.intro
end
/-! ### the matching's dicts -/
def encG (g : AL) : List (Key × V) := g.map fun q => (Sum.inl ((q.1 : Nat) : Int), V.int ((q.2 : Nat) : Int))
def encS (s : List Nat) : List (Key × V) := s.map fun p => (Sum.inl ((p : Nat) : Int), V.bl true)
theorem key_nat {a b : Nat} : (Sum.inl (a : Int) : Key) = Sum.inl (b : Int) ↔ a = b := by
  constructor
  · intro h
    have := Sum.inl.inj h
    omega
  · intro h
    rw [h]
theorem valG (p : Nat) : ∀ g : AL, valV (encG g) (Sum.inl (p : Int)) = (getA g p).map fun e => V.int (e : Int)
  | [] => rfl
  | q :: g => by
    show valV (((Sum.inl ((q.1 : Nat) : Int) : Key), V.int ((q.2 : Nat) : Int)) :: encG g) _ = _
    by_cases c : q.1 = p
    · rw [valV_pos (key_nat.mpr c)]
      unfold getA
      rw [List.find?_cons, decide_eq_true c]
      rfl
    · rw [valV_neg (fun z => c (key_nat.mp z)), valG p g]
      unfold getA
      rw [List.find?_cons, decide_eq_false c]
theorem valS (p : Nat) : ∀ s : List Nat, valV (encS s) (Sum.inl (p : Int)) = if p ∈ s then some (V.bl true) else none
  | [] => rfl
  | q :: s => by
    show valV (((Sum.inl ((q : Nat) : Int) : Key), V.bl true) :: encS s) _ = _
    by_cases c : q = p
    · rw [valV_pos (key_nat.mpr c), if_pos (by rw [c]; exact List.mem_cons_self)]
    · rw [valV_neg (fun z => c (key_nat.mp z)), valS p s]
      by_cases m : p ∈ s
      · rw [if_pos m, if_pos (List.mem_cons_of_mem _ m)]
      · rw [if_neg m, if_neg (fun z => by
          rcases List.mem_cons.mp z with z | z
          · exact c z.symm
          · exact m z)]
theorem putS {p : Nat} {s : List Nat} (h : p ∉ s) : putK (encS s) (Sum.inl (p : Int)) (V.bl true) = encS (s ++ [p]) := by
  rw [putK_new _ (by rw [valS, if_neg h])]
  unfold encS
  rw [List.map_append]
  rfl
theorem putG {p e : Nat} {g : AL} : putK (encG g) (Sum.inl (p : Int)) (V.int (e : Int)) = encG (putA g p e) := by
  have an : ((encG g).any fun kv => decide (kv.1 = (Sum.inl (p : Int) : Key))) = g.any fun q => decide (q.1 = p) := by
    unfold encG
    rw [List.any_map]
    refine congrArg (fun z => List.any g z) (funext fun q => ?_)
    show decide ((Sum.inl ((q.1 : Nat) : Int) : Key) = Sum.inl (p : Int)) = _
    exact decide_eq_decide.mpr key_nat
  unfold putK putA
  rw [an]
  by_cases c : (g.any fun q => decide (q.1 = p)) = true
  · rw [if_pos c, if_pos c]
    unfold encG
    rw [List.map_map, List.map_map]
    refine List.map_congr_left fun q _ => ?_
    show (if (Sum.inl ((q.1 : Nat) : Int) : Key) = Sum.inl (p : Int) then ((Sum.inl ((q.1 : Nat) : Int) : Key), V.int (e : Int)) else (Sum.inl ((q.1 : Nat) : Int), V.int ((q.2 : Nat) : Int))) = _
    by_cases c2 : q.1 = p
    · rw [if_pos (key_nat.mpr c2)]
      show _ = (Sum.inl (((if q.1 = p then (p, e) else q).1 : Nat) : Int), V.int (((if q.1 = p then (p, e) else q).2 : Nat) : Int))
      rw [if_pos c2, c2]
    · rw [if_neg (fun z => c2 (key_nat.mp z))]
      show _ = (Sum.inl (((if q.1 = p then (p, e) else q).1 : Nat) : Int), V.int (((if q.1 = p then (p, e) else q).2 : Nat) : Int))
      rw [if_neg c2]
  · rw [if_neg c, if_neg c]
    unfold encG
    rw [List.map_append]
    rfl
theorem encG_len (g : AL) : (encG g).length = g.length := List.length_map ..
theorem encS_len (s : List Nat) : (encS s).length = s.length := List.length_map ..
/-! ### how much is written -/
def Bn : Nat → Nat
  | 0 => 0
  | k + 1 => 3 * (1 + Bn k)
def Ln (k i : Nat) : Nat := i * (1 + Bn k)
theorem Ln_succ {k i : Nat} : Ln k (i + 1) = Ln k i + (1 + Bn k) := Nat.succ_mul ..
theorem Bn_succ {k : Nat} : Bn (k + 1) = Ln k 3 := rfl
theorem Ln_mono {k i j : Nat} (h : i ≤ j) : Ln k i ≤ Ln k j := Nat.mul_le_mul_right _ h
theorem get_ok {m p e : Nat} {g : AL} (h : ∀ q ∈ g, q.2 < m) (hg : getA g p = some e) : e < m := by
  unfold getA at hg
  obtain ⟨q, h1, h2⟩ := Option.map_eq_some_iff.mp hg
  rw [← h2]
  exact h q (List.mem_of_find?_eq_some h1)
theorem put_ok {m p e : Nat} {g : AL} (h : ∀ q ∈ g, q.2 < m) (he : e < m) : ∀ q ∈ putA g p e, q.2 < m := by
  unfold putA
  split
  · intro q hq
    obtain ⟨r, hr, rfl⟩ := List.mem_map.mp hq
    split
    · exact he
    · exact h r hr
  · intro q hq
    rcases List.mem_append.mp hq with hq | hq
    · exact h q hq
    · rw [List.mem_singleton.mp hq]
      exact he
theorem put_len {p e : Nat} {g : AL} : (putA g p e).length ≤ g.length + 1 := by
  unfold putA
  split
  · rw [List.length_map]
    omega
  · rw [List.length_append]
    exact Nat.le_refl _
def FrOk (m c : Nat) (g : AL) (s : List Nat) (r : Option Fr3) : Prop := ∀ b g' s', r = some (b, g', s') → (∀ q ∈ g', q.2 < m) ∧ g'.length ≤ g.length + c ∧ s'.length ≤ s.length + c
theorem loop_ok {m k : Nat} {rec : AL → List Nat → Nat → Option Fr3} {e : Nat} (hrec : ∀ g s e, e < m → (∀ q ∈ g, q.2 < m) → FrOk m (Bn k) g s (rec g s e)) (he : e < m) : ∀ (ps : List Nat) (g : AL) (s : List Nat), (∀ q ∈ g, q.2 < m) → FrOk m (Ln k ps.length) g s (loopM rec e ps g s)
  | [], g, s, hg => fun b g' s' h => by
    cases h
    exact ⟨hg, Nat.le_add_right _ _, Nat.le_add_right _ _⟩
  | p :: ps, g, s, hg => fun b g' s' h => by
    have step : Ln k (p :: ps).length = Ln k ps.length + (1 + Bn k) := Ln_succ
    unfold loopM at h
    by_cases c : p ∈ s
    · rw [if_pos c] at h
      obtain ⟨h1, h2, h3⟩ := loop_ok hrec he ps g s hg b g' s' h
      exact ⟨h1, by omega, by omega⟩
    · rw [if_neg c] at h
      cases hp : getA g p with
      | none =>
        rw [hp] at h
        cases h
        have := put_len (p := p) (e := e) (g := g)
        refine ⟨put_ok hg he, by omega, ?_⟩
        rw [List.length_append, List.length_singleton]
        omega
      | some e' =>
        rw [hp] at h
        have r := hrec g (s ++ [p]) e' (get_ok hg hp) hg
        cases hr : rec g (s ++ [p]) e' with
        | none =>
          simp only [hr] at h
          cases h
        | some z =>
          obtain ⟨b1, g1, s1⟩ := z
          obtain ⟨r1, r2, r3⟩ := r b1 g1 s1 hr
          rw [List.length_append, List.length_singleton] at r3
          cases b1 with
          | true =>
            simp only [hr] at h
            cases h
            have := put_len (p := p) (e := e) (g := g1)
            exact ⟨put_ok r1 he, by omega, by omega⟩
          | false =>
            simp only [hr] at h
            obtain ⟨h1, h2, h3⟩ := loop_ok hrec he ps g1 s1 r1 b g' s' h
            exact ⟨h1, by omega, by omega⟩
theorem freed_ok {rows : List (List Nat)} (h3 : ∀ r ∈ rows, r.length ≤ 3) : ∀ (k : Nat) (g : AL) (s : List Nat) (e : Nat), e < rows.length → (∀ q ∈ g, q.2 < rows.length) → FrOk rows.length (Bn k) g s (freedM rows k g s e)
  | 0, g, s, e, _, _ => fun b g' s' h => by cases h
  | k + 1, g, s, e, he, hg => fun b g' s' h => by
    have hr : (rows.getD e []).length ≤ 3 := by
      rw [List.getD_eq_getElem?_getD, List.getElem?_eq_getElem he]
      exact h3 _ (List.getElem_mem he)
    obtain ⟨h1, h2, h4⟩ := loop_ok (k := k) (fun g s e he hg => freed_ok h3 k g s e he hg) he (rows.getD e []) g s hg b g' s' h
    have := Ln_mono (k := k) hr
    rw [Bn_succ]
    exact ⟨h1, by omega, by omega⟩
end LB
end
section
set_option autoImplicit false
set_option Elab.async false
set_option linter.all false
set_option maxRecDepth 100000
set_option maxHeartbeats 4000000
/-! A call that knows of a part of the heap alone. -/
namespace LB
open PySem PySem.Spec PySem.W PyProof.Rows L2 LamX
open Classical in
noncomputable def cutH (κ : Addr → Prop) (H : Hp) : Hp := fun b => if κ b then H b else none
open Classical in
noncomputable def joinH (κ : Addr → Prop) (H H1 : Hp) : Hp := fun b => if κ b then H1 b else if H b = none then H1 b else H b
theorem cut_in {κ : Addr → Prop} {H : Hp} {b : Addr} (h : κ b) : cutH κ H b = H b := if_pos h
theorem cut_out {κ : Addr → Prop} {H : Hp} {b : Addr} (h : ¬ κ b) : cutH κ H b = none := if_neg h
theorem cut_none {κ : Addr → Prop} {H : Hp} {b : Addr} (h : H b = none) : cutH κ H b = none := by
  by_cases c : κ b
  · rw [cut_in c, h]
  · exact cut_out c
theorem join_in {κ : Addr → Prop} {H H1 : Hp} {b : Addr} (h : κ b) : joinH κ H H1 b = H1 b := if_pos h
theorem join_new {κ : Addr → Prop} {H H1 : Hp} {b : Addr} (h : H b = none) : joinH κ H H1 b = H1 b := by
  unfold joinH
  by_cases c : κ b
  · rw [if_pos c]
  · rw [if_neg c, if_pos h]
theorem join_old {κ : Addr → Prop} {H H1 : Hp} {b : Addr} {o : HO} (h : ¬ κ b) (e : H b = some o) : joinH κ H H1 b = some o := by
  unfold joinH
  rw [if_neg h, if_neg (by rw [e]; intro z; cases z), e]
/-- κ: what the call knows of; the rest leans on itself alone -/
structure CutOk (P : Program) (w : World) (κ : Addr → Prop) (H : Hp) : Prop where
  kept : ∀ h, HOk P w H h → HOk P w (cutH κ H) h
  rest : ∀ (h h' : Heap) (H' : Hp), HOk P w H h → (∀ c o, H c = some o → ¬ κ c → H' c = some o) → (∀ c o ob, H c = some o → ¬ κ c → h.get? c = some ob → h'.get? c = some ob) → ∀ b o, H b = some o → ¬ κ b → ObjOk P w H' h' b o
theorem obj_some {P : Program} {w : World} {H : Hp} {h : Heap} {b : Addr} {o : HO} (x : ObjOk P w H h b o) : ∃ ob, h.get? b = some ob := by
  have lt := x.lt
  cases o with
  | lst xs => obtain ⟨_, _, _, _, e⟩ := x; exact ⟨_, e⟩
  | tup xs => obtain ⟨_, _, _, _, e, _⟩ := x; exact ⟨_, e⟩
  | dK kvs => obtain ⟨_, _, _, _, o, _, _, e, _⟩ := x; exact ⟨_, e⟩
  | dT kvs => obtain ⟨_, _, _, _, o, _, _, e, _⟩ := x; exact ⟨_, e⟩
  | set S n => obtain ⟨o, _, _, _, e, _⟩ := x; exact ⟨_, e⟩
  | ins C dx fs => obtain ⟨_, _, _, e, _⟩ := x; exact ⟨_, e⟩
  | own y => exact x
  | xd fs => obtain ⟨_, ⟨_, _, _, e, _⟩, _⟩ := x; exact ⟨_, e⟩
  | rng lo hi => obtain ⟨_, _, _, e⟩ := x; exact ⟨_, e⟩
  | frz ob u => obtain ⟨e, _⟩ := x; exact ⟨_, e⟩
  | tbl ps => exact ⟨_, (show h.get? b = some _ from x)⟩
  | met f y => exact ⟨_, (show h.get? b = some _ from x)⟩
  | ext φ => obtain ⟨_, e, _⟩ := x; exact e
theorem FnOk.cut {P : Program} {w : World} {K : PySem.W.Frag} {mg : Str → Option Value} {base : Heap} {k : Nat} {f : Addr} {fd : FuncData} {ps : List Str} {sp sp' : Sp} (F : FnOk P w K mg base CX0 k f fd ps sp)
    (h : ∀ vs H Q E, sp' vs H Q E → ∃ κ : Addr → Prop, CutOk P w κ H ∧ sp vs (cutH κ H) (fun v H1 => (∀ b o, H b = some o → ¬ κ b → H1 b = none) → Q v (joinH κ H H1)) E) : FnOk P w K mg base CX0 k f fd ps sp' := by
  refine ⟨fun vs H Q E q => let ⟨κ, _, s⟩ := h vs H Q E q; F.len _ _ _ _ s, fun A outer s H args us vs Q E hr he hb hv hs => ?_⟩
  obtain ⟨κ, C, hsp⟩ := h vs H Q E hs
  have he1 : Env0 P w K mg base A outer s (cutH κ H) := { he with bs := fun b o q => ⟨(he.bs b o q).1, cut_none (he.bs b o q).2⟩, frf := fun b q => cut_none (he.frf b q), hok := C.kept _ he.hok }
  refine codeAny_mono (F.run A outer s (cutH κ H) args us vs _ E hr he1 hb hv hsp) fun r s' q => ?_
  cases r with
  | error e => exact q
  | ok fl =>
    cases fl with
    | next => exact q
    | brk => exact q
    | cont => exact q
    | ret u =>
      obtain ⟨v, H1, os, bare, un, hok, rv, qv⟩ := q
      have old : ∀ c o ob, H c = some o → ¬ κ c → s.heap.get? c = some ob → s'.heap.get? c = some ob := fun c o ob e nk eo => by
        refine un.keep c ob eo (cut_out nk) (fun z => ?_) (fun z => nomatch z)
        rw [he.frf c z] at e
        cases e
      have jo : ∀ c o, H c = some o → ¬ κ c → joinH κ H H1 c = some o := fun c o e nk => join_old nk e
      have ext : ∀ b u, H1 b = some u → joinH κ H H1 b = some u := fun b u q => by
        by_cases c : κ b
        · rw [join_in c]
          exact q
        · cases e : H b with
          | none =>
            rw [join_new e]
            exact q
          | some o =>
            obtain ⟨ob, eo⟩ := obj_some (he.hok b o e)
            have z := un.free b ob eo (cut_out c) (fun z => nomatch z)
            rw [z] at q
            cases q
      have gone : ∀ b o, H b = some o → ¬ κ b → H1 b = none := fun b o e nk => by
        obtain ⟨ob, eo⟩ := obj_some (he.hok b o e)
        exact un.free b ob eo (cut_out nk) (fun z => nomatch z)
      refine ⟨v, joinH κ H H1, os, bare, ⟨fun b o e n hf hx => un.keep b o e (cut_none n) hf hx, fun b o e n hf hx => un.slot b o e (cut_none n) hf hx, fun b o e n hx => ?_, un.there, fun b xs e => ?_, fun b o u e => ?_, fun b ps e => ?_⟩, fun b o e => ?_, rv, qv gone⟩
      · rw [join_new n]
        exact un.free b o e (cut_none n) hx
      · by_cases c : κ b
        · exact ext _ _ (un.tups b xs ((cut_in c).trans e))
        · exact jo b _ e c
      · by_cases c : κ b
        · exact ext _ _ (un.frzs b o u ((cut_in c).trans e))
        · exact jo b _ e c
      · by_cases c : κ b
        · obtain ⟨more, z⟩ := un.tbls b ps ((cut_in c).trans e)
          exact ⟨more, ext _ _ z⟩
        · exact ⟨#[], by rw [Array.append_empty]; exact jo b _ e c⟩
      · have new : H1 b = some o → ObjOk P w (joinH κ H H1) s'.heap b o := fun q => (hok b o q).stay (fun _ _ _ z => z) (fun _ z => ext _ _ z) fun _ _ z => ext _ _ z
        by_cases c : κ b
        · rw [join_in c] at e
          exact new e
        · cases e0 : H b with
          | none =>
            rw [join_new e0] at e
            exact new e
          | some o0 =>
            rw [join_old c e0] at e
            cases e
            exact C.rest s.heap s'.heap _ he.hok jo old b _ e0 c
/-! ### one thing set aside -/
theorem cut_hid {H : Hp} {D : Addr} : cutH (fun b => b ≠ D) H = hid H D := by
  funext b
  by_cases c : b = D
  · rw [cut_out (fun z => z c), c, hid_self]
  · rw [cut_in c, hid_ne c]
theorem join_hid {H H1 : Hp} {D : Addr} {o : HO} (h : H D = some o) : joinH (fun b => b ≠ D) H H1 = upd H1 D o := by
  funext b
  by_cases c : b = D
  · rw [join_old (fun z => z c) (by rw [c]; exact h), c, upd_same]
  · rw [join_in c, upd_ne c]
theorem cutOk_hid {P : Program} {w : World} {H : Hp} {D : Addr} {o : HO} (h : H D = some o) (m : Mv o) : CutOk P w (fun b => b ≠ D) H where
  kept := fun hp ok b u e => by
    rw [cut_hid] at e ⊢
    obtain ⟨e3, nb⟩ := hid_some e
    refine (ok b u e3).stay (fun _ _ _ q => q) (fun c q => ?_) fun c xs q => ?_
    · by_cases cd : c = D
      · rw [cd, h] at q
        have q := Option.some.inj q
        subst q
        exact False.elim m
      · rw [hid_ne cd]
        exact q
    · by_cases cd : c = D
      · rw [cd, h] at q
        have q := Option.some.inj q
        subst q
        exact False.elim m
      · rw [hid_ne cd]
        exact q
  rest := fun hp h' H' ok _ st b u e nb => by
    have eb : b = D := Classical.byContradiction nb
    subst eb
    rw [h] at e
    cases e
    obtain ⟨ob, e1, _, back⟩ := mv_obj m (ok b _ h)
    exact back _ _ (st b _ ob h nb e1)
/-- the promise with one thing set aside -/
def spHid (sp : Sp) : Sp := fun vs H Q E => ∃ D o, H D = some o ∧ Mv o ∧ sp vs (hid H D) (fun v H1 => H1 D = none → Q v (upd H1 D o)) E
theorem FnOk.hid {P : Program} {w : World} {K : PySem.W.Frag} {mg : Str → Option Value} {base : Heap} {k : Nat} {f : Addr} {fd : FuncData} {ps : List Str} {sp : Sp} (F : FnOk P w K mg base CX0 k f fd ps sp) : FnOk P w K mg base CX0 k f fd ps (spHid sp) :=
  FnOk.cut F fun vs H Q E ⟨D, o, h, m, s⟩ => ⟨fun b => b ≠ D, cutOk_hid h m, by
    have e : (fun v H1 => (∀ b o, H b = some o → ¬ (b ≠ D) → H1 b = none) → Q v (joinH (fun b => b ≠ D) H H1)) = fun v H1 => H1 D = none → Q v (upd H1 D o) := funext fun v => funext fun H1 => by
      rw [join_hid h]
      refine propext ⟨fun q n => q fun b u _ nb => ?_, fun q n => q (n D o h fun z => z rfl)⟩
      rw [Classical.byContradiction nb]
      exact n
    rw [cut_hid, e]
    exact s⟩
end LB
end
section
set_option autoImplicit false
set_option Elab.async false
set_option linter.all false
set_option maxRecDepth 100000
set_option maxHeartbeats 4000000
/-! Judgements where the outcome is one of some, with things of ours set aside. -/
namespace LB
open PySem PySem.Spec PySem.W PyProof.Rows L2 LamX
def hidL (H : Hp) : List Addr → Hp
  | [] => H
  | a :: as => hid (hidL H as) a
theorem hidL_sub {H : Hp} : ∀ {as : List Addr} {b : Addr} {o : HO}, hidL H as b = some o → H b = some o
  | [], _, _, h => h
  | a :: as, b, o, h => hidL_sub (hid_some h).1
theorem hidL_out {H : Hp} : ∀ {as : List Addr} {b : Addr}, b ∉ as → hidL H as b = H b
  | [], _, _ => rfl
  | a :: as, b, h => by
    show hid (hidL H as) a b = _
    rw [hid_ne (fun z => h (by rw [z]; exact List.mem_cons_self)), hidL_out fun z => h (List.mem_cons_of_mem _ z)]
theorem hidL_in {H : Hp} : ∀ {as : List Addr} {b : Addr}, b ∈ as → hidL H as b = none
  | a :: as, b, h => by
    show hid (hidL H as) a b = none
    by_cases c : b = a
    · rw [c, hid_self]
    · rw [hid_ne c]
      exact hidL_in ((List.mem_cons.mp h).resolve_left c)
theorem hidL_ext {H H' : Hp} {as : List Addr} (h : ∀ b, b ∉ as → H b = H' b) : hidL H as = hidL H' as := by
  funext b
  by_cases c : b ∈ as
  · rw [hidL_in c, hidL_in c]
  · rw [hidL_out c, hidL_out c, h b c]
theorem hidL_upd {H : Hp} {as : List Addr} {a : Addr} {o : HO} (h : a ∉ as) : hidL (upd H a o) as = upd (hidL H as) a o := by
  funext b
  by_cases c : b ∈ as
  · rw [hidL_in c, upd_ne (fun z => h (by rw [← z]; exact c)), hidL_in c]
  · rw [hidL_out c]
    by_cases c2 : b = a
    · rw [c2, upd_same, upd_same]
    · rw [upd_ne c2, upd_ne c2, hidL_out c]
theorem hidL_updIn {H : Hp} {as : List Addr} {a : Addr} {o : HO} (h : a ∈ as) : hidL (upd H a o) as = hidL H as :=
  hidL_ext fun b hb => upd_ne fun z => hb (by rw [z]; exact h)
theorem hidL_hid {H : Hp} {as : List Addr} {a : Addr} : hidL (hid H a) as = hid (hidL H as) a := by
  funext b
  by_cases c2 : b = a
  · rw [c2, hid_self]
    by_cases c : a ∈ as
    · rw [hidL_in c]
    · rw [hidL_out c, hid_self]
  · rw [hid_ne c2]
    by_cases c : b ∈ as
    · rw [hidL_in c, hidL_in c]
    · rw [hidL_out c, hidL_out c, hid_ne c2]
section
variable {X : Cx} {σ : L2.St} {e : Expr} {es : List Expr} {st : Stmt}
def Backs (as : List Addr) (H H' : Hp) : Prop := ∀ a ∈ as, H' a = H a
theorem evT.frames {Q : VK} : ∀ {as : List Addr} {H : Hp}, as.Nodup → (∀ a ∈ as, ∃ o, H a = some o ∧ Mv o) → evT X e σ (hidL H as) Q → evT X e σ H fun v H' => Q v (hidL H' as) ∧ Backs as H H'
  | [], H, _, _, h => evT.mono h fun v H' q => ⟨q, fun a z => nomatch z⟩
  | a :: as, H, nd, mv, h => by
    obtain ⟨n1, n2⟩ := List.nodup_cons.mp nd
    obtain ⟨o, ho, m⟩ := mv a List.mem_cons_self
    have ha : hidL H as a = some o := by rw [hidL_out n1, ho]
    refine evT.mono (evT.frames n2 (fun b hb => mv b (List.mem_cons_of_mem _ hb)) (evT.frame ha m h)) fun v H' ⟨⟨H1, q, n, e1⟩, bk⟩ => ?_
    have hh : hidL H' (a :: as) = H1 := by
      show hid (hidL H' as) a = H1
      rw [e1, hid_upd, hid_none n]
    refine ⟨hh ▸ q, fun b hb => ?_⟩
    rcases List.mem_cons.mp hb with z | hb
    · rw [z, ← hidL_out (H := H') n1, e1, upd_same, ho]
    · exact bk b hb
theorem tvT.frames {Q : Bool → Hp → Prop} : ∀ {as : List Addr} {H : Hp}, as.Nodup → (∀ a ∈ as, ∃ o, H a = some o ∧ Mv o) → tvT X e σ (hidL H as) Q → tvT X e σ H fun v H' => Q v (hidL H' as) ∧ Backs as H H'
  | [], H, _, _, h => tvT.mono h fun v H' q => ⟨q, fun a z => nomatch z⟩
  | a :: as, H, nd, mv, h => by
    obtain ⟨n1, n2⟩ := List.nodup_cons.mp nd
    obtain ⟨o, ho, m⟩ := mv a List.mem_cons_self
    have ha : hidL H as a = some o := by rw [hidL_out n1, ho]
    refine tvT.mono (tvT.frames n2 (fun b hb => mv b (List.mem_cons_of_mem _ hb)) (tvT.frame ha m h)) fun v H' ⟨⟨H1, q, n, e1⟩, bk⟩ => ?_
    have hh : hidL H' (a :: as) = H1 := by
      show hid (hidL H' as) a = H1
      rw [e1, hid_upd, hid_none n]
    refine ⟨hh ▸ q, fun b hb => ?_⟩
    rcases List.mem_cons.mp hb with z | hb
    · rw [z, ← hidL_out (H := H') n1, e1, upd_same, ho]
    · exact bk b hb
theorem avT.frames {Q : List V → Hp → Prop} : ∀ {as : List Addr} {H : Hp}, as.Nodup → (∀ a ∈ as, ∃ o, H a = some o ∧ Mv o) → avT X es σ (hidL H as) Q → avT X es σ H fun v H' => Q v (hidL H' as) ∧ Backs as H H'
  | [], H, _, _, h => avT.mono h fun v H' q => ⟨q, fun a z => nomatch z⟩
  | a :: as, H, nd, mv, h => by
    obtain ⟨n1, n2⟩ := List.nodup_cons.mp nd
    obtain ⟨o, ho, m⟩ := mv a List.mem_cons_self
    have ha : hidL H as a = some o := by rw [hidL_out n1, ho]
    refine avT.mono (avT.frames n2 (fun b hb => mv b (List.mem_cons_of_mem _ hb)) (avT.frame ha m h)) fun v H' ⟨⟨H1, q, n, e1⟩, bk⟩ => ?_
    have hh : hidL H' (a :: as) = H1 := by
      show hid (hidL H' as) a = H1
      rw [e1, hid_upd, hid_none n]
    refine ⟨hh ▸ q, fun b hb => ?_⟩
    rcases List.mem_cons.mp hb with z | hb
    · rw [z, ← hidL_out (H := H') n1, e1, upd_same, ho]
    · exact bk b hb
/-- a statement that stores alone, with things set aside -/
theorem svT.frames {Qn : L2.St → Hp → Prop} : ∀ {as : List Addr} {H : Hp} {E : Ends}, as.Nodup → (∀ a ∈ as, ∃ o, H a = some o ∧ Mv o) → (∀ E1 : Ends, (∀ σ' H1, Qn σ' H1 → E1.nx σ' H1) → svT X st E1 σ (hidL H as)) → (∀ σ' H', Qn σ' (hidL H' as) → Backs as H H' → E.nx σ' H') → svT X st E σ H
  | [], H, E, _, _, h, q => h E fun σ' H1 z => q σ' H1 z fun a z => nomatch z
  | a :: as, H, E, nd, mv, h, q => by
    obtain ⟨n1, n2⟩ := List.nodup_cons.mp nd
    obtain ⟨o, ho, m⟩ := mv a List.mem_cons_self
    have ha : hidL H as a = some o := by rw [hidL_out n1, ho]
    refine svT.frames (Qn := fun σ' H2 => ∃ H1, Qn σ' H1 ∧ H1 a = none ∧ H2 = upd H1 a o) n2 (fun b hb => mv b (List.mem_cons_of_mem _ hb)) (fun E1 h1 => svT.frame ha m (h _ fun σ' H1 z n => h1 _ _ ⟨H1, z, n, rfl⟩)) fun σ' H' ⟨H1, z, n, e1⟩ bk => ?_
    have hh : hidL H' (a :: as) = H1 := by
      show hid (hidL H' as) a = H1
      rw [e1, hid_upd, hid_none n]
    refine q σ' H' (hh ▸ z) fun b hb => ?_
    rcases List.mem_cons.mp hb with z | hb
    · rw [z, ← hidL_out (H := H') n1, e1, upd_same, ho]
    · exact bk b hb
end
/-- what is set aside: the places, the slots that stay, what is known -/
structure Sa where
  as : List Addr
  sl : List (Nat × V)
  C : Hp → Prop
structure SaOk (F : Sa) : Prop where
  nd : F.as.Nodup
  mv : ∀ H, F.C H → ∀ a ∈ F.as, ∃ o, H a = some o ∧ Mv o
  st : ∀ H H', F.C H → Backs F.as H H' → F.C H'
def sa0 : Sa := ⟨[], [], fun _ => True⟩
theorem sa0_ok : SaOk sa0 where
  nd := List.nodup_nil
  mv := fun _ _ a z => nomatch z
  st := fun _ _ _ _ => True.intro
section
variable {X : Cx} {T : List (Addr × Str)} {F : Sa} {δ δ' : List (Option PyData)} {σ : L2.St} {H H' : Hp} {e : Expr} {es : List Expr} {st : Stmt} {sts rest : List Stmt} {d : PyData} {P : PyData → Prop} {b : Bool} {j : Nat} {x : Str}
structure Jst (X : Cx) (T : List (Addr × Str)) (F : Sa) (δ : List (Option PyData)) (σ : L2.St) (H : Hp) : Prop where
  len : σ.length = X.N.length
  sl : ∀ p ∈ F.sl, σ[p.1]? = some (some p.2)
  c : F.C H
  ds : DS X.K (hidL H F.as) σ δ
  t : Tabs T (hidL H F.as)
theorem Jst.gw (J : Jst X T F δ σ H) (c : F.C H') (g : Gw T (hidL H F.as) (hidL H' F.as)) : Jst X T F δ σ H' := ⟨J.len, J.sl, c, J.ds.gw g, g.2⟩
theorem Jst.put {v : V} (J : Jst X T F δ σ H) (hj : j < σ.length) (n : j ∉ F.sl.map (·.1)) (dv : Dp X.K (hidL H F.as) v d) : Jst X T F (δ.set j (some d)) (σ.set j (some v)) H :=
  ⟨by rw [List.length_set]; exact J.len, fun p hp => by rw [List.getElem?_set_ne fun z => n (by rw [z]; exact List.mem_map.mpr ⟨p, hp, rfl⟩)]; exact J.sl p hp, J.c, J.ds.set hj dv, J.t⟩
theorem Jst.weak (J : Jst X T F δ σ H) (w : Sub δ' δ) : Jst X T F δ' σ H := { J with ds := J.ds.weak w }
def Je (X : Cx) (T : List (Addr × Str)) (F : Sa) (δ : List (Option PyData)) (e : Expr) (P : PyData → Prop) : Prop := ∀ σ H, Jst X T F δ σ H → evT X e σ H fun v H' => F.C H' ∧ Gw T (hidL H F.as) (hidL H' F.as) ∧ ∃ d, P d ∧ Dp X.K (hidL H' F.as) v d
def Jt (X : Cx) (T : List (Addr × Str)) (F : Sa) (δ : List (Option PyData)) (e : Expr) (b : Bool) : Prop := ∀ σ H, Jst X T F δ σ H → tvT X e σ H fun b' H' => b' = b ∧ F.C H' ∧ Gw T (hidL H F.as) (hidL H' F.as)
def Ja (X : Cx) (T : List (Addr × Str)) (F : Sa) (δ : List (Option PyData)) (es : List Expr) (P : List PyData → Prop) : Prop := ∀ σ H, Jst X T F δ σ H → avT X es σ H fun vs H' => F.C H' ∧ Gw T (hidL H F.as) (hidL H' F.as) ∧ ∃ ds, P ds ∧ DpAll X.K (hidL H' F.as) vs ds
def Js1 (X : Cx) (T : List (Addr × Str)) (F : Sa) (δ : List (Option PyData)) (st : Stmt) (P : List (Option PyData) → Prop) : Prop := ∀ σ H (E : Ends), Jst X T F δ σ H → (∀ δ' σ' H', P δ' → Jst X T F δ' σ' H' → Gw T (hidL H F.as) (hidL H' F.as) → E.nx σ' H') → svT X st E σ H
def Js (X : Cx) (T : List (Addr × Str)) (F : Sa) (δ : List (Option PyData)) (sts : List Stmt) (P : List (Option PyData) → Prop) : Prop := ∀ σ H (E : Ends), Jst X T F δ σ H → (∀ δ' σ' H', P δ' → Jst X T F δ' σ' H' → Gw T (hidL H F.as) (hidL H' F.as) → E.nx σ' H') → ssT X sts E σ H
def Jr (X : Cx) (T : List (Addr × Str)) (F : Sa) (δ : List (Option PyData)) (sts : List Stmt) (P : PyData → Prop) : Prop := ∀ σ H (E : Ends), Jst X T F δ σ H → (∀ d v H', P d → F.C H' → Gw T (hidL H F.as) (hidL H' F.as) → Dp X.K (hidL H' F.as) v d → E.rt v H') → ssT X sts E σ H
/-! ### from what is sure -/
theorem Je.of (ok : SaOk F) (h : De X T δ e d) (p : P d) : Je X T F δ e P := fun σ H J =>
  evT.mono (evT.frames ok.nd (ok.mv H J.c) (h σ _ J.len J.ds J.t)) fun v H' ⟨⟨g, dv⟩, bk⟩ => ⟨ok.st _ _ J.c bk, g, d, p, dv⟩
theorem Jt.of (ok : SaOk F) (h : Dt X T δ e b) : Jt X T F δ e b := fun σ H J =>
  tvT.mono (tvT.frames ok.nd (ok.mv H J.c) (h σ _ J.len J.ds J.t)) fun v H' ⟨⟨e, g⟩, bk⟩ => ⟨e, ok.st _ _ J.c bk, g⟩
theorem Ja.of {ds : List PyData} {P : List PyData → Prop} (ok : SaOk F) (h : Da X T δ es ds) (p : P ds) : Ja X T F δ es P := fun σ H J =>
  avT.mono (avT.frames ok.nd (ok.mv H J.c) (h σ _ J.len J.ds J.t)) fun v H' ⟨⟨g, dv⟩, bk⟩ => ⟨ok.st _ _ J.c bk, g, ds, p, dv⟩
theorem Js1.ofS {P : List (Option PyData) → Prop} (ok : SaOk F) (h : Ds X T δ st j d) (hj : j < X.N.length) (p : P (δ.set j (some d))) (n : j ∉ F.sl.map (·.1)) : Js1 X T F δ st P := fun σ H E J q =>
  svT.frames (Qn := fun σ' H1 => ∃ v, σ' = σ.set j (some v) ∧ Gw T (hidL H F.as) H1 ∧ Dp X.K H1 v d) ok.nd (ok.mv H J.c) (fun E1 h1 => h σ _ E1 J.len J.ds J.t fun v H' g dv => h1 _ _ ⟨v, rfl, g, dv⟩) fun σ' H' ⟨v, e, g, dv⟩ bk => by
    subst e
    exact q _ _ H' p ((J.gw (ok.st _ _ J.c bk) g).put (by rw [J.len]; exact hj) n dv) g
theorem Je.mono {P' : PyData → Prop} (h : Je X T F δ e P) (i : ∀ d, P d → P' d) : Je X T F δ e P' := fun σ H J => evT.mono (h σ H J) fun v H' ⟨c, g, d, p, dv⟩ => ⟨c, g, d, i d p, dv⟩
/-! ### with a list or dict more set aside -/
theorem Je.hid1 {D : Addr} {o : HO} (ok : SaOk F) (h : Je X T F δ e P) (hD : H D = some o) (m : Mv o) (nD : D ∉ F.as) (J : Jst X T F δ σ (hid H D)) : evT X e σ H fun v H' => H' D = some o ∧ F.C (hid H' D) ∧ Gw T (hidL (hid H D) F.as) (hidL (hid H' D) F.as) ∧ ∃ d, P d ∧ Dp X.K (hidL (hid H' D) F.as) v d :=
  evT.mono (evT.frame hD m (h σ _ J)) fun v H' ⟨H1, ⟨c, g, d, p, dv⟩, n, e1⟩ => by
    have hh : hid H' D = H1 := by rw [e1, hid_upd, hid_none n]
    rw [hh]
    exact ⟨by rw [e1, upd_same], c, g, d, p, dv⟩
/-! ### statements -/
theorem Js.nil {P : List (Option PyData) → Prop} (p : P δ) : Js X T F δ [] P := fun σ H E J q pins s I => (pss_nil (X := X)).run pins s σ H E I (q δ σ H p J (Gw.refl J.t))
theorem Js.cons {P Q : List (Option PyData) → Prop} (h : Js1 X T F δ st Q) (hr : ∀ δ1, Q δ1 → Js X T F δ1 rest P) : Js X T F δ (st :: rest) P := fun σ H E J q pins s I =>
  (pss_cons (ps_ev (X := X)) pss_ev).run pins s σ H E I (h σ H { E with nx := ssT X rest E } J fun δ1 σ1 H1 p1 J1 g1 => hr δ1 p1 σ1 H1 E J1 fun δ2 σ2 H2 p2 J2 g2 => q δ2 σ2 H2 p2 J2 (g1.trans g2))
theorem Js.weak {P Q : List (Option PyData) → Prop} (h : Js X T F δ sts Q) (w : ∀ δ1, Q δ1 → ∃ δ2, P δ2 ∧ Sub δ2 δ1) : Js X T F δ sts P := fun σ H E J q => h σ H E J fun δ1 σ1 H1 p1 J1 g1 =>
  let ⟨δ2, p2, s2⟩ := w δ1 p1
  q δ2 σ1 H1 p2 (J1.weak s2) g1
theorem Js1.weak {P Q : List (Option PyData) → Prop} (h : Js1 X T F δ st Q) (w : ∀ δ1, Q δ1 → ∃ δ2, P δ2 ∧ Sub δ2 δ1) : Js1 X T F δ st P := fun σ H E J q => h σ H E J fun δ1 σ1 H1 p1 J1 g1 =>
  let ⟨δ2, p2, s2⟩ := w δ1 p1
  q δ2 σ1 H1 p2 (J1.weak s2) g1
theorem Jr.next {Q : List (Option PyData) → Prop} (h : Js1 X T F δ st Q) (hr : ∀ δ1, Q δ1 → Jr X T F δ1 rest P) : Jr X T F δ (st :: rest) P := fun σ H E J q pins s I =>
  (pss_cons (ps_ev (X := X)) pss_ev).run pins s σ H E I (h σ H { E with nx := ssT X rest E } J fun δ1 σ1 H1 p1 J1 g1 => hr δ1 p1 σ1 H1 E J1 fun d v H2 p2 c2 g2 dv => q d v H2 p2 c2 (g1.trans g2) dv)
theorem Jr.ret {pos : Pos} (h : Je X T F δ e P) : Jr X T F δ (.Return (some e) pos :: rest) P := fun σ H E J q pins s I =>
  (pss_cons (ps_ret (X := X) pe_ev) pss_never).run pins s σ H E I (evT.mono (h σ H J) fun v H' ⟨c, g, d, p, dv⟩ => q d v H' p c g dv)
theorem Jr.ifT {pos : Pos} {c : Expr} {thn els : List Stmt} (hc : Jt X T F δ c true) (h : Jr X T F δ thn P) : Jr X T F δ (.If c thn els pos :: rest) P := fun σ H E J q pins s I =>
  (pss_cons (ps_if (X := X) pt_ev pss_ev pss_never) pss_never).run pins s σ H E I (tvT.mono (hc σ H J) fun b' H' ⟨e, c, g⟩ => by
    rw [e, if_pos rfl]
    exact h σ H' _ (J.gw c g) fun d v H2 p2 c2 g2 dv => q d v H2 p2 c2 (g.trans g2) dv)
theorem Jr.ifF {pos : Pos} {c : Expr} {thn : List Stmt} (hc : Jt X T F δ c false) (h : Jr X T F δ rest P) : Jr X T F δ (.If c thn [] pos :: rest) P := fun σ H E J q pins s I =>
  (pss_cons (ps_if (X := X) pt_ev pss_never pss_nil) pss_ev).run pins s σ H E I (tvT.mono (hc σ H J) fun b' H' ⟨e, c, g⟩ => by
    rw [e, if_neg (by decide)]
    exact h σ H' E (J.gw c g) fun d v H2 p2 c2 g2 dv => q d v H2 p2 c2 (g.trans g2) dv)
theorem Js1.ifT {pos : Pos} {c : Expr} {thn els : List Stmt} {P : List (Option PyData) → Prop} (hc : Jt X T F δ c true) (h : Js X T F δ thn P) : Js1 X T F δ (.If c thn els pos) P := fun σ H E J q pins s I =>
  (ps_if (X := X) pt_ev pss_ev pss_never).run pins s σ H E I (tvT.mono (hc σ H J) fun b' H' ⟨e, c, g⟩ => by
    rw [e, if_pos rfl]
    exact h σ H' _ (J.gw c g) fun d v H2 p2 c2 g2 => q d v H2 p2 c2 (g.trans g2))
theorem Js1.ifF {pos : Pos} {c : Expr} {thn : List Stmt} {P : List (Option PyData) → Prop} (hc : Jt X T F δ c false) (p : P δ) : Js1 X T F δ (.If c thn [] pos) P := fun σ H E J q pins s I =>
  (ps_if (X := X) pt_ev pss_never pss_nil).run pins s σ H E I (tvT.mono (hc σ H J) fun b' H' ⟨e, c, g⟩ => by
    rw [e, if_neg (by decide)]
    exact q δ σ H' p (J.gw c g) g)
theorem Js1.set {pos pos' : Pos} {Q : List (Option PyData) → Prop} (hN : X.N.Nodup) (h : Je X T F δ e P) (p : ∀ d, P d → Q (δ.set j (some d))) (n : j ∉ F.sl.map (·.1)) (hi : X.N[j]? = some x := by rfl) (hx : Loc X.env.scope x := by first | exact Or.inl rfl | exact Or.inr rfl)
    (hs : swapsWith e (some (.Name x pos')) pos.line X.env = pure false := by rfl) (hf : X.fn x = true ∨ X.env.scope.names.lookup x = some .local := by first | exact .inl rfl | exact .inr rfl) : Js1 X T F δ (.Assign [.Name x pos'] e pos) Q := fun σ H E J q pins s I =>
  (ps_set (X := X) hN hi hx pe_ev hs hf).run pins s σ H E I (evT.mono (h σ H J) fun v H' ⟨c, g, d, pd, dv⟩ => q _ _ _ (p d pd) ((J.gw c g).put (lt_of_ix hi J.len) n dv) g)
/-! ### expressions -/
theorem Ja.nil {P : List PyData → Prop} (p : P []) : Ja X T F δ [] P := fun σ H J pos pins s I => (pa_nil (X := X)).run pos pins s σ H _ I ⟨J.c, Gw.refl J.t, [], p, .nil⟩
theorem Ja.cons {P : List PyData → Prop} {P1 : PyData → Prop} {P2 : List PyData → Prop} (h : Je X T F δ e P1) (hr : Ja X T F δ es P2) (p : ∀ d ds, P1 d → P2 ds → P (d :: ds)) (he : starEach (e :: es) X.env = (false, eval e X.env) :: starEach es X.env := by rfl) : Ja X T F δ (e :: es) P := fun σ H J pos pins s I =>
  (pa_cons (X := X) pe_ev pa_ev he).run pos pins s σ H _ I (evT.mono (h σ H J) fun v H1 ⟨c1, g1, d, p1, dv⟩ => avT.mono (hr σ H1 (J.gw c1 g1)) fun vs H2 ⟨c2, g2, ds, p2, dvs⟩ => ⟨c2, g1.trans g2, d :: ds, p d ds p1 p2, .cons (Dp.gw g2 _ _ dv) dvs⟩)
end
end LB
end
section
set_option autoImplicit false
set_option Elab.async false
set_option linter.all false
set_option maxRecDepth 100000
set_option maxHeartbeats 4000000
/-! Walks: freed. -/
namespace LB
open PySem PySem.Spec PySem.W PyProof.Rows L2 LamX
/-- the promise of freed, for so much recursion -/
def spFreed (T : List (Addr × Str)) (K : PySem.W.Frag) (n : Nat) : Sp := fun vs H Q _ => ∃ (rv : V) (rows : List (List Nat)) (G S : Addr) (g : AL) (s : List Nat) (e : Nat) (b : Bool) (g' : AL) (s' : List Nat), vs = [rv, .ref G, .int (e : Nat), .ref S] ∧ G ≠ S ∧ H G = some (.dK (encG g)) ∧ H S = some (.dK (encS s)) ∧
  Dp K (hid2 H G S) rv (.list (rows.map rowD)) ∧ (∀ r ∈ rows, r.length ≤ 3) ∧ Tabs T (hid2 H G S) ∧ e < rows.length ∧ (∀ q ∈ g, q.2 < rows.length) ∧ g.length + Bn n ≤ 5000 ∧ s.length + Bn n ≤ 5000 ∧ freedM rows n g s e = some (b, g', s') ∧
  ∀ H', H' G = some (.dK (encG g')) → H' S = some (.dK (encS s')) → Gw T (hid2 H G S) (hid2 H' G S) → Q (.bl b) H'
theorem yesT {p q : Prop} (h : p) : (if true = true then p else q) := by rw [if_pos rfl]; exact h
theorem noF {p q : Prop} (h : q) : (if false = true then p else q) := by rw [if_neg (by decide)]; exact h
section
variable {P : Program} {w : World} {K : PySem.W.Frag} {mg : Str → Option Value} {base : Heap} {T : List (Addr × Str)} {f : Addr} {fd : FuncData}
abbrev sFreed : Stmt := top 40
abbrev nFreed : List Str := ["rows", "given", "element", "seen", "place"]
theorem sc_freed : FnScope nFreed ["rows", "given", "element", "seen"] (defScope sFreed) := ⟨rfl, rfl, rfl, by decide +kernel, rfl, by decide +kernel, by decide +kernel⟩
theorem w_freed (F : Fun K "freed" "freed" sFreed f fd) (hm : mg "freed" = some (.ref f)) (hb : Binds K fd ["rows", "given", "element", "seen"] []) : ∀ n, FnOk P w K mg base CX0 (n + 1) f fd ["rows", "given", "element", "seen"] (spFreed T K n)
  | 0 => F.ok sc_freed (fun vs H Q E ⟨_, _, _, _, _, _, _, _, _, _, e, _⟩ => by rw [e]; rfl) fun cdv A outer s H vs Q E hr ⟨_, _, _, _, _, _, _, _, _, _, _, _, _, _, _, _, _, _, _, _, _, h, _⟩ => by cases h
  | n + 1 => by
    have FN := w_freed F hm hb n
    refine F.ok sc_freed (fun vs H Q E ⟨_, _, _, _, _, _, _, _, _, _, e, _⟩ => by rw [e]; rfl) fun cdv A outer sh H vs Q E hr ⟨rv, rows, G, S, g, s, e, b, g', s', ev, ne, hG, hS, dr, r3, t, he, hgm, lg, ls, run, q⟩ => ?_
    subst ev
    have hu : (A.deeper (envOfC "freed" (defScope sFreed) sh.heap.objs.size f cdv)).units + 1 < cLine := hu_of hr
    refine ⟨_, pss_cons (ps_for PassesOwn.never rfl (pi_list pe_ev) (pg_name (i := 4) sc_freed.nd rfl (Or.inl rfl))
      (pss_one (ps_if (pt_cmp (pc_dnotin hu (pv 4) (pv 3)))
        (pss_cons (ps_dput hu (pv 3) (pv 4) pe_bl rfl)
          (pss_one (ps_if (pw_or (pt_cmp (pc_dnotin hu (pv 4) (pv 1))) (pw_or1 (pt_val (pe_call FN hr (by rfl) hm F.kp hb .nil pass0 (pa_cons (pv 0) (pa_cons (pv 1) (pa_cons (pe_dget hu (pv 1) (pv 4) (fun _ _ => rfl)) (pa_cons (pv 3) pa_nil)))))))).pt
            (pss_cons (ps_dput hu (pv 1) (pv 4) (pv 2) rfl) (pss_one (ps_ret pe_bl))) pss_nil))) pss_nil))) (pss_one (ps_ret pe_bl)), ?_⟩
    let X : Cx := (cxOf CX0 P w K mg base nFreed "freed" (defScope sFreed) f cdv A outer sh H E).nox
    let δ0 : List (Option PyData) := [some (.list (rows.map rowD)), none, some (.int (e : Nat)), none, none]
    let row := rows.getD e []
    have hrow : rows[e]? = some row := by
      show _ = some (rows.getD e [])
      rw [List.getD_eq_getElem?_getD, List.getElem?_eq_getElem he]
      rfl
    have row3 : row.length ≤ 3 := r3 _ (List.mem_of_getElem? hrow)
    have hrow2 : (rows.map rowD)[e]? = some (rowD row) := by
      rw [List.getElem?_map, hrow]
      rfl
    have A0 : A2 X T (hid2 H G S) 1 3 δ0 G S (encG g) (encS s) (L2.start nFreed [rv, .ref G, .int (e : Nat), .ref S]) H :=
      { len := rfl, sg := rfl, ss := rfl, ne := ne, hg := hG, hs := hS, gw := Gw.refl t, ds := fun i d h => by
          match i, h with
          | 0, h =>
            cases Option.some.inj (Option.some.inj h)
            exact ⟨rv, rfl, dr⟩
          | 1, h => cases h
          | 2, h =>
            cases Option.some.inj (Option.some.inj h)
            exact ⟨_, rfl, .int _⟩
          | 3, h => cases h
          | 4, h => cases h
          | i + 5, h => cases h }
    refine A0.ev (De.ixL (k := e) (d := rowD row) (dv 0 (d := .list (rows.map rowD))) (dv 2 (d := .int (e : Nat))) hrow2) fun v H' g1 A1 dv => ?_
    cases dv with
    | @lst ad xs _ hq hv =>
      have lx : xs.length = row.length := by rw [dpAll_len hv, List.length_map]
      have A1' : A2 X T (hid2 H' G S) 1 3 δ0 G S (encG g) (encS s) _ H' := { A1 with gw := Gw.refl A1.gw.2 }
      refine ⟨ad, rfl, ⟨xs, SqL.gw hq A1'.up⟩, for_it walk_list (fun j σ H2 => ∃ (gj : AL) (sj : List Nat), A2 X T (hid2 H' G S) 1 3 δ0 G S (encG gj) (encS sj) σ H2 ∧ loopM (freedM rows n) e (row.drop j) gj sj = some (b, g', s') ∧ (∀ q ∈ gj, q.2 < rows.length) ∧ gj.length + Ln n (row.length - j) ≤ 5000 ∧ sj.length + Ln n (row.length - j) ≤ 5000)
        ⟨g, s, A1', by rw [List.drop_zero]; exact run, hgm, ?_, ?_⟩ (fun j σ H2 _ ⟨_, _, Aj, _⟩ => SqL.gw hq Aj.up) (fun j x σ H2 H3 hj ⟨gj, sj, Aj, runj, hgj, l1, l2⟩ yy => ?_) (fun σ H2 ⟨gj, sj, Aj, runj, _⟩ => ?_)⟩
      · have := Ln_mono (k := n) (show row.length - 0 ≤ 3 by omega)
        have e1 : Bn (n + 1) = Ln n 3 := Bn_succ
        omega
      · have := Ln_mono (k := n) (show row.length - 0 ≤ 3 by omega)
        have e1 : Bn (n + 1) = Ln n 3 := Bn_succ
        omega
      · obtain ⟨rfl, hx⟩ := yy
        have hjr : j < row.length := by rw [← lx]; exact hj
        obtain ⟨p, hp⟩ : ∃ p, row[j]? = some p := ⟨_, List.getElem?_eq_getElem hjr⟩
        have hd : row.drop j = p :: row.drop (j + 1) := by
          rw [List.drop_eq_getElem_cons hjr]
          rw [List.getElem?_eq_getElem hjr] at hp
          rw [Option.some.inj hp]
        obtain ⟨x', hx', dx⟩ := dpAll_get hv (show (row.map fun p => PyData.int (p : Nat))[j]? = some (.int (p : Nat)) by rw [List.getElem?_map, hp]; rfl)
        rw [hx] at hx'
        cases hx'
        cases dx
        have lenE : row.length - j = (row.length - (j + 1)) + 1 := by omega
        have lnE : Ln n (row.length - j) = Ln n (row.length - (j + 1)) + (1 + Bn n) := by rw [lenE]; exact Ln_succ
        have Ap := Aj.put (j := 4) (v := .int (p : Nat)) (d := .int (p : Nat)) (by rw [Aj.len]; show 4 < 5; decide) (by decide) (by decide) (.int _)
        have sub : Sub δ0 (δ0.set 4 (some (.int (p : Nat)))) := by exact Sub.tl (Sub.tl (Sub.tl (Sub.tl (Sub.no Sub.ni))))
        have s4 : (σ.set 4 (some (V.int (p : Nat))))[4]? = some (some (V.int (p : Nat))) := List.getElem?_set_self (by rw [Aj.len]; show 4 < 5; decide)
        have s2 : (σ.set 4 (some (V.int (p : Nat))))[2]? = some (some (V.int (e : Nat))) := by
          obtain ⟨v2, h2, d2⟩ := Ap.ds 2 (.int (e : Nat)) rfl
          cases d2
          exact h2
        obtain ⟨v0, s0, d0⟩ := Ap.ds 0 (.list (rows.map rowD)) rfl
        rw [hd] at runj
        unfold loopM at runj
        refine ⟨_, s4, _, Ap.ss, S, _, rfl, DGet.k (k := Sum.inl (p : Int)) Ap.hs, _, rfl, ?_⟩
        rw [valS]
        by_cases c : p ∈ sj
        · rw [if_pos c] at runj ⊢
          exact noF ⟨gj, sj, Ap.weak sub, runj, hgj, by omega, by omega⟩
        · rw [if_neg c] at runj ⊢
          have As : A2 X T (hid2 H' G S) 1 3 (δ0.set 4 (some (.int (p : Nat)))) G S (encG gj) (encS (sj ++ [p])) _ _ := Ap.setS
          have fewS : (encS sj).length < sizeLine := by rw [encS_len, sizeLine_eq]; omega
          refine yesT ⟨_, Ap.ss, _, s4, S, _, rfl, DPut.k (k := Sum.inl (p : Int)) Ap.hs fewS, ?_⟩
          rw [putS c]
          refine ⟨_, s4, _, As.sg, G, _, rfl, DGet.k (k := Sum.inl (p : Int)) As.hg, _, rfl, ?_⟩
          rw [valG]
          have fin : ∀ (g1' : AL) (s1' : List Nat) (H5 : Hp), A2 X T (hid2 H' G S) 1 3 (δ0.set 4 (some (.int (p : Nat)))) G S (encG g1') (encS s1') (σ.set 4 (some (V.int (p : Nat)))) H5 → g1'.length ≤ 5000 → some (true, putA g1' p e, s1') = some (b, g', s') → 
              ∃ v, (σ.set 4 (some (V.int (p : Nat))))[2]? = some (some v) ∧ ∃ v1, (σ.set 4 (some (V.int (p : Nat))))[1]? = some (some v1) ∧ ∃ v4, (σ.set 4 (some (V.int (p : Nat))))[4]? = some (some v4) ∧ ∃ a H4, v1 = .ref a ∧ DPut H5 a v4 v H4 ∧ Q (.bl true) H4 := by
            intro g1' s1' H5 A5 l5 e5
            cases e5
            have A6 : A2 X T (hid2 H' G S) 1 3 (δ0.set 4 (some (.int (p : Nat)))) G S (encG (putA g1' p e)) _ _ _ := A5.setG
            refine ⟨_, s2, _, A5.sg, _, s4, G, _, rfl, DPut.k (k := Sum.inl (p : Int)) A5.hg (by rw [encG_len, sizeLine_eq]; omega), ?_⟩
            rw [putG]
            exact q _ A6.hg A6.hs (g1.trans A6.gw)
          cases hgp : getA gj p with
          | none =>
            rw [hgp] at runj
            exact yesT (yesT (fin gj (sj ++ [p]) _ As (by omega) runj))
          | some e' =>
            rw [hgp] at runj
            refine noF ⟨_, s0, _, As.sg, _, As.sg, _, s4, G, .int (e' : Nat), rfl, ?_, _, As.ss, ?_⟩
            · have z := DGet.k (k := Sum.inl (p : Int)) As.hg
              rw [valG, hgp] at z
              exact z
            · have fok := freed_ok r3 n gj (sj ++ [p]) e' (get_ok hgj hgp) hgj
              cases hr1 : freedM rows n gj (sj ++ [p]) e' with
              | none =>
                simp only [hr1] at runj
                cases runj
              | some z =>
                obtain ⟨b1, g1', s1'⟩ := z
                obtain ⟨f1, f2, f3⟩ := fok b1 g1' s1' hr1
                rw [List.length_append, List.length_singleton] at f3
                refine ⟨v0, rows, G, S, gj, sj ++ [p], e', b1, g1', s1', rfl, ne, As.hg, As.hs, ?_, r3, As.gw.2, get_ok hgj hgp, hgj, by omega, by rw [List.length_append, List.length_singleton]; omega, hr1, fun H5 h5 h6 g5 => ⟨b1, rfl, ?_⟩⟩
                · obtain ⟨v0', s0', d0'⟩ := As.ds 0 (.list (rows.map rowD)) rfl
                  rw [s0] at s0'
                  cases s0'
                  exact d0'
                · have A5 : A2 X T (hid2 H' G S) 1 3 (δ0.set 4 (some (.int (p : Nat)))) G S (encG g1') (encS s1') (σ.set 4 (some (V.int (p : Nat)))) H5 := { As with hg := h5, hs := h6, ds := As.ds.gw g5, gw := As.gw.trans g5 }
                  cases b1 with
                  | true =>
                    simp only [hr1] at runj
                    exact yesT (fin g1' s1' H5 A5 (by omega) runj)
                  | false =>
                    simp only [hr1] at runj
                    exact noF ⟨g1', s1', A5.weak sub, runj, f1, by omega, by omega⟩
      · rw [lx, List.drop_length] at runj
        cases runj
        exact q H2 Aj.hg Aj.hs (g1.trans Aj.gw)
end
end LB
end
section
set_option autoImplicit false
set_option Elab.async false
set_option linter.all false
set_option maxRecDepth 100000
set_option maxHeartbeats 4000000
/-! Walks: can_be_placed. -/
namespace LB
open PySem PySem.Spec PySem.W PyProof.Rows L2 LamX
section
variable {P : Program} {w : World} {K : PySem.W.Frag} {mg : Str → Option Value} {base : Heap} {T : List (Addr × Str)} {f : Addr} {fd : FuncData}
abbrev sCan : Stmt := top 41
abbrev nCan : List Str := ["rows", "given", "element"]
theorem sc_can : FnScope nCan ["rows"] (defScope sCan) := ⟨rfl, rfl, rfl, by decide +kernel, rfl, by decide +kernel, by decide +kernel⟩
theorem w_can {k : Nat} {fF : Addr} {fdF : FuncData} (F : Fun K "can_be_placed" "can_be_placed" sCan f fd) (hm : mg "can_be_placed" = some (.ref f)) (hb : Binds K fd ["rows"] []) (GG : Gb w mg K) (FF : Fun K "freed" "freed" sFreed fF fdF) (hmF : mg "freed" = some (.ref fF)) (hbF : Binds K fdF ["rows", "given", "element", "seen"] [])
    (FN : FnOk P w K mg base CX0 k fF fdF ["rows", "given", "element", "seen"] (spFreed T K 5)) : Fd P w K mg base T (k + 1) "can_be_placed" RCan := by
  refine ⟨f, fd, ["rows"], hm, F.kp, hb, F.ok sc_can (fun vs H Q E ⟨ds, d, dv, _, ⟨_, _, e, _⟩, _⟩ => by rw [dpAll_len dv, e]; rfl) fun cdv A outer sh H vs Q E hr ⟨ds, d, dvs, t, ⟨rows, b, e1, h3, rok, hcan, e2⟩, q⟩ => ?_⟩
  subst e1 e2
  obtain ⟨rv, rfl, dr⟩ := dp1 dvs
  have hfr := GG.fr
  let X : Cx := (cxOf CX0 P w K mg base nCan "can_be_placed" (defScope sCan) f cdv A outer sh H E).nox
  have r3 : ∀ r ∈ rows, r.length ≤ 3 := fun r hr => allRow_len (rok r hr)
  obtain ⟨bs, hbs, rfl⟩ : ∃ bs, cansM rows rows.length 0 [] = some bs ∧ bs.all id = b := Option.map_eq_some_iff.mp hcan
  refine ⟨_, pss_cons (ps_set (i := 1) sc_can.nd rfl (by first | exact Or.inl rfl | exact Or.inr rfl) pe_dnewK (by rfl) (by first | exact .inl rfl | exact .inr rfl)) (pss_one (ps_ret (pe_callB (cr_all (by rfl)) (by rfl) (hfr _ (by decide)) boot_all
    (pa_cons (pe_lc (own := [("element", 2)]) (g := gName 2) (tt := tYes) (te := bvT _ _ _) (by rfl) sc_can.nd (pi_range1 (by rfl) (hfr _ (by decide)) (pa_cons pe_ev pa_nil)) (blkOk_by (N := nCan) (sc := defScope sCan) (own := [("element", 2)]) (by decide +kernel)) (fun _ _ _ _ _ => pg_name sc_can.nd rfl (Or.inl rfl)) (fun _ _ _ _ _ => pts_nil)
      (fun s H C cl fp => ⟨fun pins s1 σ H1 Q J h => h s H C cl fp pins s1 J⟩) (by intro _; rfl)) pa_nil)))), ?_⟩
  refine fun G hG => ?_
  have hhG : hid (upd H G (.dK [])) G = H := by rw [hid_upd, hid_none hG]
  have ds0 : DS X.K H [some rv, some (V.ref G), none] [some (.list (rows.map rowD)), none, none] := fun i d h => by
    match i, h with
    | 0, h =>
      cases Option.some.inj (Option.some.inj h)
      exact ⟨rv, rfl, dr⟩
    | 1, h => cases h
    | 2, h => cases h
    | i + 3, h => cases h
  have lenR : (rows.map rowD).length = rows.length := List.length_map ..
  refine evT.mono (evT.frame (o := .dK []) (Q := fun v H' => Gw T H H' ∧ Dp X.K H' v (.int (((rows.map rowD).length : Nat) : Int))) upd_same True.intro (by
    rw [hhG]
    exact (De.lenL hfr (dv 0 (d := .list (rows.map rowD)))) _ H rfl ds0 t)) fun v H' ⟨H1, ⟨g1, d1⟩, n1, e1⟩ => ?_
  cases d1
  refine ⟨_, rfl, by omega, by omega, fun D hD => ?_⟩
  have hG' : H' G = some (.dK []) := by rw [e1, upd_same]
  have hB : hid H' G = H1 := by rw [e1, hid_upd, hid_none n1]
  have nDG : D ≠ G := fun z => by rw [z, hG'] at hD; cases hD
  refine lc_it (walk_range (lo := 0) (n := (rows.map rowD).length)) (fun j H2 => ∃ (g : AL) (done rest : List Bool), H2 D = some (.lst (done.map V.bl)) ∧ H2 G = some (.dK (encG g)) ∧ Gw T H1 (hid (hid H2 G) D) ∧ (∀ z ∈ g, z.2 < rows.length) ∧ g.length ≤ j * Bn 5 ∧ done.length = j ∧ cansM rows (rows.length - j) j g = some rest ∧ bs = done ++ rest)
    ⟨[], [], bs, upd_same, (upd_ne (Ne.symm nDG)).trans hG', ?_, (fun z hz => by cases hz), Nat.zero_le _, rfl, hbs, rfl⟩ (fun _ _ _ _ => trivial) (fun j x H2 H3 hj ⟨g, done, rest, hDl, hGl, gw, hgm, lg, ld, run, eb⟩ yy => ?_) fun H2 ⟨g, done, rest, hDl, hGl, gw, hgm, lg, ld, run, eb⟩ => ?_
  · have e2 : hid (hid (upd H' D (.lst [])) G) D = H1 := by
      rw [hid_comm, hid_upd, hid_none hD, hB]
    rw [e2]
    exact Gw.refl g1.2
  · obtain ⟨rfl, rfl⟩ := yy
    rw [lenR] at hj
    rw [show rows.length - j = (rows.length - (j + 1)) + 1 by omega] at run
    unfold cansM at run
    have hDl2 : hid H3 G D = some (.lst (done.map V.bl)) := (hid_ne nDG).trans hDl
    have gwG : Gw T H1 (hid H3 G) := Gw.unM gw hDl2 True.intro
    cases hf : freedM rows fuelM g [] j with
    | none =>
      rw [hf] at run
      cases run
    | some z =>
      obtain ⟨b1, g', s'⟩ := z
      rw [hf] at run
      obtain ⟨rest', hrest, er⟩ := Option.map_eq_some_iff.mp run
      obtain ⟨f1, f2, f3⟩ := freed_ok r3 5 g [] j hj hgm b1 g' s' hf
      refine ⟨?_, ?_⟩
      · exact wipe2
      dsimp only [tYes]
      rw [if_pos rfl]
      intro s H0 C cl fp pins s1 I
      refine (pe_call FN hr (by rfl) hmF FF.kp hbF .nil pass0 (pa_cons (pv 0) (pa_cons (pv 1) (pa_cons (pv 2) (pa_cons pe_dnewK pa_nil))))).run pins s1 _ _ _ I ?_
      refine ⟨rv, rfl, V.ref G, rfl, V.int (0 + (j : Int)), rfl, fun S hS => ?_⟩
      have nGS : G ≠ S := fun z => by rw [← z, hGl] at hS; cases hS
      have nDS : D ≠ S := fun z => by rw [← z, hDl] at hS; cases hS
      have e3 : hid2 (upd H3 S (.dK [])) G S = hid H3 G := by
        rw [hid2_updB nGS]
        exact hid_none ((hid_ne (Ne.symm nGS)).trans hS)
      have bn : Bn 5 = 363 := rfl
      have j3 : j ≤ 2 := by omega
      have jb : j * Bn 5 ≤ 2 * Bn 5 := Nat.mul_le_mul_right _ j3
      refine ⟨rv, rows, G, S, g, [], j, b1, g', s', by rw [Int.zero_add]; rfl, nGS, (upd_ne nGS).trans hGl, upd_same, ?_, r3, ?_, hj, hgm, by omega, by rw [List.length_nil]; omega, hf, fun H5 h5 h6 g5 => ?_⟩
      · rw [e3]
        exact Dp.gw (g1.trans gwG) _ _ dr
      · rw [e3]
        exact gwG.2
      · rw [e3] at g5
        have hD5 : H5 D = some (.lst (done.map V.bl)) := (hid_some (hid_some (g5.lst hDl2)).1).1
        have gD := g5.hid hDl2
        refine ⟨_, hD5, by rw [List.length_map, sizeLine_eq]; omega, g', done ++ [b1], rest', by rw [List.map_append]; exact upd_same, (upd_ne (Ne.symm nDG)).trans h5, ?_, f1, ?_, by rw [List.length_append, ld]; rfl, hrest, by rw [eb, ← er, List.append_assoc]; rfl⟩
        · have e4 : hid (hid (upd H5 D (.lst (done.map V.bl ++ [V.bl b1]))) G) D = hid (hid H5 G) D := by
            rw [hid_comm, hid_upd, hid_comm]
          rw [e4]
          have g6 : Gw T H1 (hid (hid (hid H5 G) D) S) := by
            rw [hid_comm (H := hid H5 G)]
            exact gw.trans gD
          exact Gw.unM g6 ((hid_ne (Ne.symm nDS)).trans ((hid_ne (Ne.symm nGS)).trans h6)) True.intro
        · rw [Nat.succ_mul]
          omega
  · rw [lenR] at ld run
    rw [Nat.sub_self] at run
    cases run
    rw [List.append_nil] at eb
    have up : Gw T H1 H2 := Gw.unM (Gw.unM gw ((hid_ne nDG).trans hDl) True.intro) hGl True.intro
    exact ⟨D, done, rfl, SqL.of hDl, q _ _ (g1.trans up) (by rw [eb]; exact .bl _)⟩
end
end LB
end
section
set_option autoImplicit false
set_option Elab.async false
set_option linter.all false
set_option maxRecDepth 100000
set_option maxHeartbeats 4000000
/-! Judgements with some outcomes: loops, comprehensions, calls. -/
namespace LB
open PySem PySem.Spec PySem.W PyProof.Rows L2 LamX
theorem SqL.sub {K : PySem.W.Frag} {H H' : Hp} {a : Addr} {xs : List V} (h : SqL K H a xs) (s : ∀ b o, H b = some o → H' b = some o) : SqL K H' a xs := by
  rcases h with (h | ⟨o, h⟩) | h
  · exact .inl (.inl (s _ _ h))
  · exact .inl (.inr ⟨o, s _ _ h⟩)
  · exact .inr h
theorem SqT.sub {K : PySem.W.Frag} {H H' : Hp} {a : Addr} {xs : List V} (h : SqT K H a xs) (s : ∀ b o, H b = some o → H' b = some o) : SqT K H' a xs := by
  rcases h with (h | ⟨o, h⟩) | h
  · exact .inl (.inl (s _ _ h))
  · exact .inl (.inr ⟨o, s _ _ h⟩)
  · exact .inr h
section
variable {X : Cx} {T : List (Addr × Str)} {F : Sa} {δ δ' : List (Option PyData)} {σ : L2.St} {H H' : Hp} {e elt iter tg : Expr} {es : List Expr} {st : Stmt} {sts rest body : List Stmt} {d : PyData} {P : PyData → Prop} {b : Bool} {i j : Nat} {x y : Str} {p px py pos p2 : Pos} {scope : Scope}
/-- what is walked: its items, one of some lists, go to slot i -/
def JSrc (X : Cx) (T : List (Addr × Str)) (F : Sa) (δ : List (Option PyData)) (tg iter : Expr) (PL : List PyData → Prop) : Prop :=
  ∃ wi, PI X tg iter wi ∧ (∀ x, foldedSetIterable iter X.env x = pure x) ∧ ∀ σ H (R : It → Hp → Prop), Jst X T F δ σ H →
    (∀ (J : It) (H1 : Hp) (G : Hp → Prop) (Y : Nat → Hp → V → Hp → Prop) (ds : List PyData), F.C H1 → Gw T (hidL H F.as) (hidL H1 F.as) → PL ds → Walk J ds.length G Y → (∀ h2 H2, Gw T (hidL H1 F.as) h2 → (∀ b o, h2 b = some o → H2 b = some o) → G H2) →
      (∀ k H x H', k < ds.length → Y k H x H' → H' = H ∧ ∃ d, ds[k]? = some d ∧ Dp X.K (hidL H1 F.as) x d) → R J H1) → wi σ H R
theorem yat_items {K : PySem.W.Frag} {h : Hp} {xs : List V} {ds : List PyData} (hv : DpAll K h xs ds) : ∀ k (H : Hp) x H', k < ds.length → YAt xs k H x H' → H' = H ∧ ∃ d, ds[k]? = some d ∧ Dp K h x d := fun k H x H' hk ⟨e, hx⟩ => by
  obtain ⟨v', hv', dp⟩ := dpAll_get hv (List.getElem?_eq_getElem hk)
  rw [hx] at hv'
  cases hv'
  exact ⟨e, _, List.getElem?_eq_getElem hk, dp⟩
theorem jsrc_l {PL : List PyData → Prop} (h : Je X T F δ iter (fun d => ∃ ds, d = .list ds ∧ PL ds)) (hs : ∀ x, foldedSetIterable iter X.env x = pure x := by intro _; rfl) : JSrc X T F δ tg iter PL :=
  ⟨_, pi_list pe_ev, hs, fun σ H R J q => evT.mono (h σ H J) fun v H1 ⟨c, g, d, ⟨ds, e, pl⟩, dv⟩ => by
    subst e
    cases dv with
    | @lst a xs _ hq hv => exact ⟨a, rfl, ⟨xs, SqL.sub hq fun b o z => hidL_sub z⟩, q _ H1 (fun H => SqL X.K H a xs) (YAt xs) ds c g pl (by rw [← dpAll_len hv]; exact walk_list) (fun h2 H2 g2 s2 => SqL.sub (SqL.gw hq g2) s2) (yat_items hv)⟩⟩
theorem jsrc_t {PL : List PyData → Prop} (h : Je X T F δ iter (fun d => ∃ ds, d = .tuple ds ∧ PL ds)) (hs : ∀ x, foldedSetIterable iter X.env x = pure x := by intro _; rfl) : JSrc X T F δ tg iter PL :=
  ⟨_, pi_tup pe_ev, hs, fun σ H R J q => evT.mono (h σ H J) fun v H1 ⟨c, g, d, ⟨ds, e, pl⟩, dv⟩ => by
    subst e
    cases dv with
    | @tup a xs _ hq hv => exact ⟨a, rfl, ⟨xs, SqT.sub hq fun b o z => hidL_sub z⟩, q _ H1 (fun H => SqT X.K H a xs) (YAt xs) ds c g pl (by rw [← dpAll_len hv]; exact walk_tup) (fun h2 H2 g2 s2 => SqT.sub (SqT.gw hq g2) s2) (yat_items hv)⟩⟩
theorem jsrc_r {PL : List PyData → Prop} {PM : Nat → Prop} (fr : Free X.mg) (h : Je X T F δ e (fun d => ∃ m : Nat, d = .int (m : Nat) ∧ PM m)) (few : ∀ m, PM m → m ≤ 1000) (pl : ∀ m, PM m → PL (upto m)) (hgr : Gl X "range" := by rfl) (he : starEach [e] X.env = [(false, eval e X.env)] := by rfl)
    (hs : ∀ x, foldedSetIterable (.Call (.Name "range" p) [e] [] p2) X.env x = pure x := by intro _; rfl) : JSrc X T F δ tg (.Call (.Name "range" p) [e] [] p2) PL :=
  ⟨_, pi_range1 hgr (fr _ (by decide)) (pa_cons pe_ev pa_nil he) he, hs, fun σ H R J q => evT.mono (h σ H J) fun v H1 ⟨c, g, d, ⟨m, e, pm⟩, dv⟩ => by
    subst e
    cases dv
    have fw := few m pm
    refine ⟨(m : Int), rfl, by omega, by omega, q _ H1 (fun _ => True) (YFn fun i => .int (0 + i)) (upto m) c g (pl m pm) (by rw [upto_len]; exact walk_range) (fun _ _ _ _ => trivial) fun k H x H' hk ⟨e1, e2⟩ => ?_⟩
    rw [upto_len] at hk
    refine ⟨e1, _, upto_at hk, ?_⟩
    rw [e2]
    show Dp X.K _ (.int (0 + (k : Int))) _
    rw [Int.zero_add]
    exact .int _⟩
/-- for x in .. -/
theorem Js1.for_ {PL : List PyData → Prop} {Q : List (Option PyData) → Prop} (hp : PassesOwn (model X.prog X.w) X.A X.env X.xe) (hc : X.calm = true) (ok : SaOk F) (S : JSrc X T F δ (.Name x px) iter PL) (Pv : List PyData → Nat → List (Option PyData) → Prop) (h0 : ∀ ds, PL ds → Pv ds 0 δ)
    (hb : ∀ ds, PL ds → ∀ k d δ1, ds[k]? = some d → Pv ds k δ1 → Js X T F (δ1.set i (some d)) body (Pv ds (k + 1))) (fin : ∀ ds δ1, PL ds → Pv ds ds.length δ1 → Q δ1) (n : i ∉ F.sl.map (·.1)) (hx : X.N[i]? = some x := by rfl) (hg : PG X (.Name x px) (gName i) := by first | exact pg_name (by decide) rfl (Or.inl rfl) | skip) :
    Js1 X T F δ (.For (.Name x px) iter body [] pos) Q := fun σ H E J q pins s I => by
  obtain ⟨wi, hi, hs, S⟩ := S
  refine (ps_for (X := X) hp hc hi hg pss_ev hs).run pins s σ H E I (S σ H _ J fun It H1 G Y ds c1 g1 pl W hG hY => ?_)
  refine for_it W (fun k σ2 H2 => ∃ δ1, Pv ds k δ1 ∧ Jst X T F δ1 σ2 H2 ∧ Gw T (hidL H1 F.as) (hidL H2 F.as)) ⟨δ, h0 ds pl, J.gw c1 g1, Gw.refl (J.gw c1 g1).t⟩ (fun k σ2 H2 _ ⟨δ1, _, J1, g⟩ => hG _ H2 g fun b o z => hidL_sub z) (fun k v σ2 H2 H3 hk ⟨δ1, pv, J1, g⟩ yy => ?_) fun σ2 H2 ⟨δ1, pv, J1, g⟩ => q δ1 σ2 H2 (fin ds δ1 pl pv) J1 (g1.trans g)
  obtain ⟨rfl, d, hd, dv⟩ := hY k H2 v H3 hk yy
  exact hb ds pl k d δ1 hd pv _ _ _ (J1.put (lt_of_ix hx J1.len) n (Dp.gw g _ _ dv)) fun δ2 σ3 H4 p2 J2 g2 => ⟨δ2, p2, J2, g.trans g2⟩
abbrev JElt (X : Cx) (T : List (Addr × Str)) (F : Sa) (scope : Scope) (δ : List (Option PyData)) (e : Expr) (P : PyData → Prop) : Prop :=
  ∀ (s : Shared) (H : Hp) (C : Addr) (cl : List (Str × Addr)) (fp : List Addr), Je (X.blk s H scope (compEnvC scope cl C X.env) fp) T F δ e P
/-- a comprehension: the list that is made, at D -/
theorem jlc_go {PL : List PyData → Prop} {PE : List PyData → Nat → PyData → Prop} {wi : TI} {Q : VK} (ok : SaOk F) (S : ∀ σ H (R : It → Hp → Prop), Jst X T F δ σ H →
    (∀ (J : It) (H1 : Hp) (G : Hp → Prop) (Y : Nat → Hp → V → Hp → Prop) (ds : List PyData), F.C H1 → Gw T (hidL H F.as) (hidL H1 F.as) → PL ds → Walk J ds.length G Y → (∀ h2 H2, Gw T (hidL H1 F.as) h2 → (∀ b o, h2 b = some o → H2 b = some o) → G H2) →
      (∀ k H x H', k < ds.length → Y k H x H' → H' = H ∧ ∃ d, ds[k]? = some d ∧ Dp X.K (hidL H1 F.as) x d) → R J H1) → wi σ H R)
    (few : ∀ ds, PL ds → ds.length ≤ 1000) (hi : i < X.N.length) (n : i ∉ F.sl.map (·.1)) (helt : ∀ ds, PL ds → ∀ k d, ds[k]? = some d → JElt X T F scope ((wipeD δ [i]).set i (some d)) elt (PE ds k)) (J : Jst X T F δ σ H)
    (q : ∀ D acc ds rs H' B, PL ds → rs.length = ds.length → (∀ k r, rs[k]? = some r → PE ds k r) → D ∉ F.as → H' D = some (.lst acc) → Gw T (hidL H F.as) B → B D = none → F.C (hid H' D) → DpAll X.K (hidL (hid H' D) F.as) acc rs → Gw T B (hidL (hid H' D) F.as) → Q (.ref D) H') : tLc wi (gName i) tYes (bvT X scope elt) [i] σ H Q := by
  refine S σ H _ J fun It H1 G Y ds c1 g1 pl W hG hY D hD => ?_
  have nD : D ∉ F.as := fun z => by
    obtain ⟨o, ho, _⟩ := ok.mv H1 c1 D z
    rw [hD] at ho
    cases ho
  have nD0 : hidL H1 F.as D = none := by rw [hidL_out nD]; exact hD
  have hh : ∀ H2 : Hp, H2 D = none → hidL (hid H2 D) F.as = hidL H2 F.as := fun H2 h => by rw [hid_none h]
  have bk : ∀ H2 : Hp, Backs F.as H2 (hid H2 D) := fun H2 a ha => hid_ne fun z => nD (z ▸ ha)
  refine lc_it W (fun k H2 => ∃ acc rs, H2 D = some (.lst acc) ∧ F.C (hid H2 D) ∧ Gw T (hidL H1 F.as) (hidL (hid H2 D) F.as) ∧ DpAll X.K (hidL (hid H2 D) F.as) acc rs ∧ rs.length = k ∧ ∀ m r, rs[m]? = some r → PE ds m r) ⟨[], [], upd_same, ?_, ?_, .nil, rfl, fun m r z => by simp at z⟩
    (fun k H2 _ ⟨acc, rs, hacc, c2, g2, _⟩ => hG _ H2 g2 fun b o z => (hid_some (hidL_sub z)).1) (fun k v H2 H3 hk ⟨acc, rs, hacc, c2, g2, da, lr, pe⟩ yy => ?_) fun H2 ⟨acc, rs, hacc, c2, g2, da, lr, pe⟩ => q D acc ds rs H2 _ pl lr pe nD hacc g1 nD0 c2 da g2
  · rw [hid_upd, hid_none hD]
    exact c1
  · rw [hid_upd, hid_none hD]
    exact Gw.refl g1.2
  · obtain ⟨rfl, d, hd, dv⟩ := hY k H2 v H3 hk yy
    refine ⟨?_, ?_⟩
    · exact wipe2
    dsimp only [tYes]
    rw [if_pos rfl]
    intro s H0 C cl fp
    have J0 : Jst X T F δ σ (hid H3 D) := (J.gw c1 g1).gw c2 g2
    have J1 : Jst X T F ((wipeD δ [i]).set i (some d)) ((L2.wipe σ [i]).set i (some v)) (hid H3 D) :=
      ⟨by rw [wipe_len]; exact J0.len, fun p hp => by
        have ne : i ≠ p.1 := fun z => n (by rw [z]; exact List.mem_map.mpr ⟨p, hp, rfl⟩)
        rw [List.getElem?_set_ne ne]
        show ((σ.set i none))[p.1]? = _
        rw [List.getElem?_set_ne ne]
        exact J0.sl p hp, c2, (J0.ds.wipe [i]).set (by rw [wipe_length, J0.len]; exact hi) (Dp.gw g2 _ _ dv), J0.t⟩
    refine evT.mono (Je.hid1 ok (helt ds pl k d hd s H0 C cl fp) hacc True.intro nD ⟨J1.len, J1.sl, J1.c, J1.ds, J1.t⟩) fun u H4 ⟨h4, c4, g4, r, pr, dr⟩ => ?_
    refine ⟨acc, h4, ?_, acc ++ [u], rs ++ [r], upd_same, ?_, ?_, ?_, by rw [List.length_append, lr]; rfl, fun m r' hm => ?_⟩
    · have := few ds pl
      rw [dpAll_len da, lr, sizeLine_eq]
      omega
    · rw [hid_upd]
      exact c4
    · rw [hid_upd]
      exact g2.trans g4
    · rw [hid_upd]
      exact dpAll_snoc (DpAll.gw g4 _ _ da) dr
    · by_cases c : m < rs.length
      · rw [List.getElem?_append_left c] at hm
        exact pe m r' hm
      · have em : m = rs.length := by
          have := (List.getElem?_eq_some_iff.mp hm).1
          rw [List.length_append, List.length_singleton] at this
          omega
        rw [em, List.getElem?_concat_length] at hm
        cases hm
        rw [em, lr]
        exact pr
/-- .. as a value -/
theorem Je.lc {PL : List PyData → Prop} {PE : List PyData → Nat → PyData → Prop} (ok : SaOk F) (hc : X.calm = true) (hN : X.N.Nodup) (S : JSrc X T F δ (.Name x px) iter PL) (few : ∀ ds, PL ds → ds.length ≤ 1000) (n : i ∉ F.sl.map (·.1))
    (helt : ∀ ds, PL ds → ∀ k d, ds[k]? = some d → JElt X T F scope ((wipeD δ [i]).set i (some d)) elt (PE ds k)) (fin : ∀ ds rs, PL ds → rs.length = ds.length → (∀ k r, rs[k]? = some r → PE ds k r) → P (.list rs))
    (bk : BlkOk X.N X.env.scope scope [(x, i)]) (hx : X.N[i]? = some x := by rfl) (hg : PgOk X scope (.Name x px) (gName i) := by first | exact fun _ _ _ _ _ => pg_name (by decide) rfl (Or.inl rfl) | skip) : Je X T F δ (.ListComp elt [⟨.Name x px, iter, [], 0⟩] scope pos) P := fun σ H J pins s I => by
  obtain ⟨wi, hi, hs, S⟩ := S
  refine (pe_lc (te := bvT X scope elt) (tt := tYes) hc hN hi bk hg (fun _ _ _ _ _ => pts_nil) (fun s H C cl fp => ⟨fun pins s1 σ H1 Q J h => h s H C cl fp pins s1 J⟩) hs).run pins s σ H _ I (jlc_go ok S few (List.getElem?_eq_some_iff.mp hx).1 n helt J fun D acc ds rs H' B pl lr pe nD hacc gB nB c da g => ?_)
  have e1 : hidL (hid H' D) F.as = hid (hidL H' F.as) D := hidL_hid
  have hD : hidL H' F.as D = some (.lst acc) := by rw [hidL_out nD]; exact hacc
  have up : Gw T (hidL (hid H' D) F.as) (hidL H' F.as) := by
    rw [e1]
    exact Gw.unM (Gw.refl (by rw [← e1]; exact g.2)) hD True.intro
  refine ⟨ok.st _ _ c (fun a ha => (hid_ne fun z => nD (by rw [← z]; exact ha)).symm), gB.trans (g.trans up), _, fin ds rs pl lr pe, .lst (SqL.of hD) (DpAll.gw up _ _ da)⟩
/-- y = [..] -/
theorem Js1.lc {q : Pos} {Q : List (Option PyData) → Prop} {PL : List PyData → Prop} {PE : List PyData → Nat → PyData → Prop} (ok : SaOk F) (hc : X.calm = true) (hN : X.N.Nodup) (S : JSrc X T F δ (.Name x px) iter PL) (few : ∀ ds, PL ds → ds.length ≤ 1000) (n : i ∉ F.sl.map (·.1)) (nj : j ∉ F.sl.map (·.1))
    (helt : ∀ ds, PL ds → ∀ k d, ds[k]? = some d → JElt X T F scope ((wipeD δ [i]).set i (some d)) elt (PE ds k)) (fin : ∀ ds rs, PL ds → rs.length = ds.length → (∀ k r, rs[k]? = some r → PE ds k r) → Q (δ.set j (some (.list rs))))
    (bk : BlkOk X.N X.env.scope scope [(x, i)]) (hsw : swapsWith (.ListComp elt [⟨.Name x px, iter, [], 0⟩] scope pos) (some (.Name y py)) q.line X.env = pure true) (hx : X.N[i]? = some x := by rfl) (hy : X.N[j]? = some y := by rfl) (hyl : X.env.scope.names.lookup y = some .local := by rfl) (hg : PgOk X scope (.Name x px) (gName i) := by first | exact fun _ _ _ _ _ => pg_name (by decide) rfl (Or.inl rfl) | skip) :
    Js1 X T F δ (.Assign [.Name y py] (.ListComp elt [⟨.Name x px, iter, [], 0⟩] scope pos) q) Q := fun σ H E J k pins s I => by
  obtain ⟨wi, hi, hs, S⟩ := S
  refine (ps_setLc (te := bvT X scope elt) (tt := tYes) hc hN hy hyl hsw hi bk hg (fun _ _ _ _ _ => pts_nil) (fun s H C cl fp => ⟨fun pins s1 σ H1 Q J h => h s H C cl fp pins s1 J⟩) hs).run pins s σ H E I (jlc_go ok S few (List.getElem?_eq_some_iff.mp hx).1 n helt J fun D acc ds rs H' B pl lr pe nD hacc gB nB c da g => ?_)
  have e1 : hidL (hid H' D) F.as = hid (hidL H' F.as) D := hidL_hid
  have hD : hidL H' F.as D = some (.lst acc) := by rw [hidL_out nD]; exact hacc
  have up : Gw T (hidL (hid H' D) F.as) (hidL H' F.as) := by
    rw [e1]
    exact Gw.unM (Gw.refl (by rw [← e1]; exact g.2)) hD True.intro
  have gg := gB.trans (g.trans up)
  have c' := ok.st _ H' c (fun a ha => (hid_ne fun z => nD (by rw [← z]; exact ha)).symm)
  exact k _ _ H' (fin ds rs pl lr pe) ((J.gw c' gg).put (lt_of_ix hy J.len) nj (.lst (SqL.of hD) (DpAll.gw up _ _ da))) gg
/-! ### calls -/
/-- a promise with some outcomes -/
def spN (T : List (Addr × Str)) (K : PySem.W.Frag) (Pre : List PyData → Prop) (R : List PyData → PyData → Prop) : Sp := fun vs H Q _ => ∃ ds, DpAll K H vs ds ∧ Tabs T H ∧ Pre ds ∧ ∀ d v H', R ds d → Gw T H H' → Dp K H' v d → Q v H'
def FdN (P : Program) (w : World) (K : PySem.W.Frag) (mg : Str → Option Value) (base : Heap) (T : List (Addr × Str)) (k : Nat) (x : Str) (Pre : List PyData → Prop) (R : List PyData → PyData → Prop) : Prop :=
  ∃ f fd ps, mg x = some (.ref f) ∧ PySem.W.keepIn K (.ref f) = true ∧ Binds K fd ps [] ∧ FnOk P w K mg base CX0 k f fd ps (spN T K Pre R)
theorem FdN.mono {P : Program} {w : World} {K : PySem.W.Frag} {mg : Str → Option Value} {base : Heap} {j k : Nat} {x : Str} {Pre : List PyData → Prop} {R : List PyData → PyData → Prop} (h : FdN P w K mg base T j x Pre R) (hk : j ≤ k) : FdN P w K mg base T k x Pre R := by
  obtain ⟨f, fd, ps, a, b, c, F⟩ := h
  exact ⟨f, fd, ps, a, b, c, F.mono hk⟩
theorem Je.call0 {k : Nat} {Pre : List PyData → Prop} {R : List PyData → PyData → Prop} {ds : List PyData} (D : FdN X.prog X.w X.K X.mg X.base T k x Pre R) (hr : Room k X.A) (ha : Da X T δ (e :: es) ds) (hp : Pre ds) (i : ∀ d, R ds d → P d) (hg : Gl X x := by rfl) (hdb : (x == ("__debug__" : Str)) = false := by decide)
    (he : starEach (e :: es) X.env = (false, eval e X.env) :: starEach es X.env := by rfl) (hpl : (backTo pos (starEach es X.env)).any (·.1) = false := by rfl) : Je X T sa0 δ (.Call (.Name x p) (e :: es) [] pos) P := fun σ H J pins s I => by
  obtain ⟨f, fd, ps, hm, hk, hb, D⟩ := D
  refine (pe_call D hr hg hm hk hb .nil (pass0 (X := X)) pa_ev hdb he hpl).run pins s σ H _ I (ha.go J.len J.ds J.t fun vs H1 g1 dv => ?_)
  rw [List.append_nil]
  exact ⟨ds, dv, g1.2, hp, fun d v H2 r g2 d2 => ⟨True.intro, g1.trans g2, d, i d r, d2⟩⟩
/-- what holds with nothing set aside, with things set aside -/
theorem Je.of0 (ok : SaOk F) (h : Je X T sa0 δ e P) : Je X T F δ e P := fun σ H J =>
  evT.mono (evT.frames ok.nd (ok.mv H J.c) (h σ _ ⟨J.len, (fun p hp => by cases hp), True.intro, J.ds, J.t⟩)) fun v H' ⟨⟨_, g, d, p, dv⟩, bk⟩ => ⟨ok.st _ _ J.c bk, g, d, p, dv⟩
end
end LB
end
section
set_option autoImplicit false
set_option Elab.async false
set_option linter.all false
set_option maxRecDepth 100000
set_option maxHeartbeats 4000000
/-! What stands beneath a value: the lists that are made on the way. -/
namespace LB
open PySem PySem.W PyProof.Rows
theorem ins_ex {R : PyData → PyData → Prop} (tot : ∀ x y, R x y ∨ R y x) (tr : ∀ x y z, R x y → R y z → R x z) (x : PyData) : ∀ l : List PyData, l.Pairwise R → ∃ r : List PyData, r.Perm (x :: l) ∧ r.Pairwise R
  | [], _ => ⟨[x], List.Perm.refl _, List.pairwise_singleton ..⟩
  | y :: l, h => by
    obtain ⟨h1, h2⟩ := List.pairwise_cons.mp h
    rcases tot x y with c | c
    · exact ⟨x :: y :: l, List.Perm.refl _, List.pairwise_cons.mpr ⟨fun z hz => by
        rcases List.mem_cons.mp hz with e | hz
        · rw [e]; exact c
        · exact tr _ _ _ c (h1 z hz), h⟩⟩
    · obtain ⟨r, p, q⟩ := ins_ex tot tr x l h2
      refine ⟨y :: r, (p.cons y).trans (List.Perm.swap _ _ _), List.pairwise_cons.mpr ⟨fun z hz => ?_, q⟩⟩
      rcases List.mem_cons.mp (p.mem_iff.mp hz) with e | hz
      · rw [e]; exact c
      · exact h1 z hz
theorem sort_ex {R : PyData → PyData → Prop} (tot : ∀ x y, R x y ∨ R y x) (tr : ∀ x y z, R x y → R y z → R x z) : ∀ l : List PyData, ∃ r : List PyData, r.Perm l ∧ r.Pairwise R
  | [] => ⟨[], List.Perm.refl _, List.Pairwise.nil⟩
  | x :: l => by
    obtain ⟨r, p, q⟩ := sort_ex tot tr l
    obtain ⟨r2, p2, q2⟩ := ins_ex tot tr x r q
    exact ⟨r2, p2.trans (p.cons x), q2⟩
theorem le_sort (s : S) (l : List PyData) : ∃ r : List PyData, r.Perm l ∧ r.Pairwise (Le s) := sort_ex (Le.total s) (fun _ _ _ h1 h2 => Le.trans h1 h2) l
theorem form_ex {s : S} {v : PyData} (h : PT s v) : ∃ d, FormR s v d := by
  cases s with
  | heap a =>
    obtain ⟨xs, rfl, _, _⟩ := h
    obtain ⟨r, p, q⟩ := le_sort a xs
    exact ⟨.tuple r, xs, r, rfl, rfl, p, q⟩
  | _ => exact ⟨v, rfl⟩
/-- the list before its heaps are sorted -/
structure Fnd (s : S) (v : PyData) (fs : List PyData) : Prop where
  len : fs.length ≤ cap s v
  pt : ∀ r ∈ fs, PT s r
  fin : ∀ ds : List PyData, (∀ d ∈ ds, ∃ r ∈ fs, FormR s r d) → (∀ r ∈ fs, ∃ d ∈ ds, FormR s r d) → ∀ u, u ∈ ds ↔ Ben s v u
theorem fnd_plain {s : S} {v : PyData} {fs : List PyData} (hs : ∀ r d, FormR s r d → d = r) (hp : ∀ r, LB.T s r → PT s r) (h : ∀ u, u ∈ fs ↔ Ben s v u) (l : fs.length ≤ cap s v) : Fnd s v fs where
  len := l
  pt := fun r hr => hp r ((h r).mp hr).1
  fin := fun ds h1 h2 u => by
    rw [← h u]
    constructor
    · intro hu
      obtain ⟨r, hr, f⟩ := h1 u hu
      rw [hs r u f]
      exact hr
    · intro hu
      obtain ⟨d, hd, f⟩ := h2 u hu
      rw [← hs u d f]
      exact hd
theorem fnd_heap {a : S} {vs fs : List PyData} (h : Rows a vs fs) (hl : vs.length ≤ 3) (l : fs.length ≤ cap (.heap a) (.tuple vs)) : Fnd (.heap a) (.tuple vs) fs where
  len := l
  pt := fun r hr => (rows_pt h hl r hr).2
  fin := fun ds h1 h2 u => ben_heap h hl h1 h2 u
theorem cap_b1 {a b : S} {x y : PyData} (hy : LB.T b y) : cap a x ≤ cap (.both a b) (.tuple [x, y]) := Nat.le_mul_of_pos_right _ (cap_pos b y hy)
theorem cap_b2 {a b : S} {x y : PyData} (hx : LB.T a x) : cap b y ≤ cap (.both a b) (.tuple [x, y]) := Nat.le_mul_of_pos_left _ (cap_pos a x hx)
theorem cap_e1 {a b : S} {x : PyData} : cap (.either a b) (.tuple [.str sL, x]) = cap a x := by simp only [cap, if_pos]
theorem cap_e2 {a b : S} {x : PyData} : cap (.either a b) (.tuple [.str sR, x]) = cap b x := by simp only [cap, if_neg nRL]
theorem cap_row {a : S} {xs : List PyData} {x : PyData} (hx : x ∈ xs) : 1 + cap a x ≤ prod (xs.map fun x => 1 + cap a x) :=
  prod_le_of_mem _ _ (fun z hz => by obtain ⟨y, _, rfl⟩ := List.mem_map.mp hz; omega) (List.mem_map.mpr ⟨x, hx, rfl⟩)
theorem prod_take {a : S} : ∀ (xs : List PyData) (k : Nat), prod ((xs.take k).map fun x => 1 + cap a x) ≤ prod (xs.map fun x => 1 + cap a x)
  | [], k => by simp
  | x :: xs, 0 => by
    rw [List.take_zero]
    exact prod_pos _ fun z hz => by obtain ⟨y, _, rfl⟩ := List.mem_map.mp hz; omega
  | x :: xs, k + 1 => by
    rw [List.take_succ_cons, List.map_cons, List.map_cons, prod, prod]
    exact Nat.mul_le_mul_left _ (prod_take xs k)
theorem map_of {f : PyData → PyData} {rs ds : List PyData} (l : rs.length = ds.length) (h : ∀ (k : Nat) r, rs[k]? = some r → ∃ d, ds[k]? = some d ∧ r = f d) : rs = ds.map f := by
  refine List.ext_getElem? fun k => ?_
  rw [List.getElem?_map]
  by_cases c : k < rs.length
  · rw [List.getElem?_eq_getElem c]
    obtain ⟨d, hd, e⟩ := h k _ (List.getElem?_eq_getElem c)
    rw [hd, e]
    rfl
  · rw [List.getElem?_eq_none (by omega), List.getElem?_eq_none (by omega)]
    rfl
/-- pairs, turn by turn -/
def prs (A B : List PyData) : List PyData := A.flatMap fun p => B.map fun q => .tuple [p, q]
theorem prs_len (A B : List PyData) : (prs A B).length = A.length * B.length := by
  unfold prs
  induction A with
  | nil => simp
  | cons x A ih => rw [List.flatMap_cons, List.length_append, ih, List.length_map, List.length_cons, Nat.succ_mul, Nat.add_comm]
theorem take_flatM {f : PyData → List PyData} {A : List PyData} {k : Nat} {d : PyData} (h : A[k]? = some d) : (A.take (k + 1)).flatMap f = (A.take k).flatMap f ++ f d := by
  rw [List.take_add_one, h, List.flatMap_append]
  simp
/-- rows with one more, turn by turn -/
def lgr (rs A : List PyData) : List PyData := A.flatMap fun u => rs.map fun r => addU r u
theorem lgr_len (rs A : List PyData) : (lgr rs A).length = A.length * rs.length := by
  unfold lgr
  induction A with
  | nil => simp
  | cons x A ih => rw [List.flatMap_cons, List.length_append, ih, List.length_map, List.length_cons, Nat.succ_mul, Nat.add_comm]
theorem mul_cap {n m a b : Nat} (h1 : n ≤ a) (h2 : m ≤ b) : n * m ≤ a * b := Nat.mul_le_mul h1 h2
end LB
end
section
set_option autoImplicit false
set_option Elab.async false
set_option linter.all false
set_option maxRecDepth 100000
set_option maxHeartbeats 4000000
/-! list(range(n)); sorted(set(l)); x, y = [], f(..). -/
namespace LB
open PySem PySem.Spec PySem.W PyProof.Rows L2 LamX
section
variable {X : Cx} {T : List (Addr × Str)} {F : Sa} {δ δ' : List (Option PyData)} {e : Expr} {rest : List Stmt} {d : PyData} {P : PyData → Prop} {i j : Nat} {x y : Str} {p p1 p2 p3 p4 px py pt pos : Pos}
theorem rgV_dp {K : PySem.W.Frag} {H : Hp} (m : Nat) : DpAll K H (rgV 0 (m : Int)) (upto m) := by
  have e : rgV 0 (m : Int) = ((List.range m).map fun i => ((i : Nat) : Int)).map V.int := by
    unfold rgV
    rw [List.map_map, Int.sub_zero]
    refine List.map_congr_left fun i _ => ?_
    show V.int (0 + (i : Int)) = V.int (i : Int)
    rw [Int.zero_add]
  have e2 : upto m = ((List.range m).map fun i => ((i : Nat) : Int)).map PyData.int := by
    unfold upto
    rw [List.map_map]
    rfl
  rw [e, e2]
  exact ints_back _
theorem De.listRange {m : Nat} (fr : Free X.mg) (hc : X.calm = true) (h : De X T δ e (.int (m : Nat))) (few : m ≤ 1000) (hg1 : Gl X "list" := by rfl) (hg2 : Gl X "range" := by rfl) (na : starEach [e] X.env = (false, eval e X.env) :: starEach [] X.env := by rfl)
    (nb : starEach [.Call (.Name "range" p2) [e] [] p3] X.env = (false, eval (.Call (.Name "range" p2) [e] [] p3) X.env) :: starEach [] X.env := by rfl) : De X T δ (.Call (.Name "list" p1) [.Call (.Name "range" p2) [e] [] p3] [] pos) (.list (upto m)) :=
  De.of (pe_listRg hc hg1 (fr _ (by decide)) (prg_1 hg2 (fr _ (by decide)) pe_ev na) nb) fun σ H Q hl hd t q => h.go hl hd t fun v H1 g1 d1 => by
    cases d1
    refine ⟨(m : Int), rfl, RgOk.of_le (by omega) (by omega) (by omega) (by omega), fun r hr => ?_⟩
    have z := lay_lst hr (rgV_dp (K := X.K) (H := H1) m) g1.2
    exact q _ _ (g1.trans z.1) z.2
theorem Je.sortedSet {ds : List PyData} (fr : Free X.mg) (hc : X.calm = true) (hu : X.A.units + 64 < cLine) (h : De X T δ e (.list ds)) (ok : Ord ds) (so : SetsOk ds) (few : ds.length ≤ 200) (pp : ∀ ns : List PyData, (∀ d ∈ ns, d ∈ ds) → (∀ d ∈ ds, d ∈ ns) → ns.length ≤ ds.length → P (.list ns))
    (hg1 : Gl X "sorted" := by rfl) (hg2 : Gl X "set" := by rfl) (na : starEach [e] X.env = (false, eval e X.env) :: starEach [] X.env := by rfl) (nb : starEach [.Call (.Name "set" p2) [e] [] p3] X.env = (false, eval (.Call (.Name "set" p2) [e] [] p3) X.env) :: starEach [] X.env := by rfl) :
    Je X T sa0 δ (.Call (.Name "sorted" p1) [.Call (.Name "set" p2) [e] [] p3] [] pos) P := fun σ H J pins s I => by
  refine (pe_callB (cr_sortedX hc hu) hg1 (fr _ (by decide)) (by rfl) (pa_cons (pe_callTy (cr_setX hc hu) hg2 (fr _ (by decide)) boot_set (pa_cons pe_ev pa_nil na) (by decide) (by decide) na (by rfl)) pa_nil nb) (by decide) (by decide) nb (by rfl)).run pins s σ H _ I ?_
  refine h.go J.len J.ds J.t fun v H1 g1 d1 => ?_
  cases d1 with
  | @lst l vs _ hs hv =>
    refine ⟨l, vs, ds, rfl, hs, hv, ok.pl, so, few, fun a vs' ds' hn dp' sub1 sub2 len => ?_⟩
    have g2 : Gw T H1 (upd H1 a (SetXO X.w a vs')) := (Gw.refl g1.2).upd hn
    refine ⟨a, vs', ds', rfl, upd_same, DpAll.gw g2 _ _ dp', ⟨fun d hd => ok.pl d (sub1 d hd), fun d hd d' hd' => ok.wal d (sub1 d hd) d' (sub1 d' hd'), fun d hd => ok.deep d (sub1 d hd)⟩, by omega, fun p vs'' ds'' hp dp'' pm _ => ?_⟩
    have z := lay_lst hp dp'' g2.2
    exact ⟨True.intro, (g1.trans g2).trans z.1, .list ds'', pp ds'' (fun d hd => sub1 d (pm.mem_iff.mp hd)) (fun d hd => pm.mem_iff.mpr (sub2 d hd)) (by rw [pm.length_eq]; exact len), z.2⟩
/-- x, y = [], e -/
theorem Js1.parL {Q : List (Option PyData) → Prop} {k1 k2 : Nat} {pt2 : Pos} (hc : X.calm = true) (hN : X.N.Nodup) (h : Je X T sa0 δ e P) (q : ∀ d, P d → Q ((δ.set i (some (.list []))).set j (some d))) (ne : i ≠ j := by decide) (hi : X.N[i]? = some x := by rfl) (hj : X.N[j]? = some y := by rfl)
    (hx : X.env.scope.names.lookup x = some .local := by rfl) (hy : X.env.scope.names.lookup y = some .local := by rfl)
    (he : starEach [Expr.List [] p1, e] X.env = (false, eval (.List [] p1) X.env) :: starEach [e] X.env := by rfl) (he2 : starEach [e] X.env = (false, eval e X.env) :: starEach [] X.env := by rfl)
    (hw : swappedStores [.Tuple [.Name x px, .Name y py] k1 pt] (.Tuple [.List [] p1, e] k2 pt2) X.env = pure (some [x, y]) := by rfl)
    (hs : swapsWithSole [.Tuple [.Name x px, .Name y py] k1 pt] (.Tuple [.List [] p1, e] k2 pt2) pos.line X.env = pure false := by rfl) :
    Js1 X T sa0 δ (.Assign [.Tuple [.Name x px, .Name y py] k1 pt] (.Tuple [.List [] p1, e] k2 pt2) pos) Q := fun σ H E J k pins s I => by
  refine (ps_par hc hN hi hj ne hx hy (pa_cons (pe_lst pa_nil) (pa_cons pe_ev pa_nil he2) he) hw hs).run pins s σ H E I ⟨by rw [sizeLine_eq]; decide, fun r hr => ?_⟩
  have z := lay_lst (K := X.K) hr .nil J.t
  have J1 : Jst X T sa0 δ σ (upd H r (.lst [])) := J.gw True.intro z.1
  refine evT.mono (h σ _ J1) fun v H2 ⟨_, g2, d, pd, dv⟩ => ⟨_, _, rfl, ?_⟩
  have J2 := (J1.gw True.intro g2).put (j := i) (v := .ref r) (d := .list []) (lt_of_ix hi J.len) (fun z => nomatch z) (Dp.gw g2 _ _ z.2)
  exact k _ _ _ (q d pd) (J2.put (j := j) (by rw [J2.len]; exact (List.getElem?_eq_some_iff.mp hj).1) (fun z => nomatch z) dv) (z.1.trans g2)
theorem Jr.setD {pos' : Pos} (ok : SaOk F) (hN : X.N.Nodup) (h : De X T δ e d) (hr : Jr X T F (δ.set j (some d)) rest P) (n : j ∉ F.sl.map (·.1) := by first | exact (fun z => nomatch z) | decide) (hi : X.N[j]? = some x := by rfl) (hx : Loc X.env.scope x := by first | exact Or.inl rfl | exact Or.inr rfl)
    (hs : swapsWith e (some (.Name x pos')) pos.line X.env = pure false := by rfl) (hf : X.fn x = true ∨ X.env.scope.names.lookup x = some .local := by first | exact .inl rfl | exact .inr rfl) : Jr X T F δ (.Assign [.Name x pos'] e pos :: rest) P :=
  Jr.next (Js1.set (Q := fun δ' => δ' = δ.set j (some d)) (P := fun d' => d' = d) hN (Je.of ok h rfl) (fun d' e => by rw [e]) n hi hx hs hf) fun δ1 e => by
    rw [e]
    exact hr
theorem Js.setD {pos' : Pos} {Q : List (Option PyData) → Prop} (ok : SaOk F) (hN : X.N.Nodup) (h : De X T δ e d) (hr : Js X T F (δ.set j (some d)) rest Q) (n : j ∉ F.sl.map (·.1) := by first | exact (fun z => nomatch z) | decide) (hi : X.N[j]? = some x := by rfl) (hx : Loc X.env.scope x := by first | exact Or.inl rfl | exact Or.inr rfl)
    (hs : swapsWith e (some (.Name x pos')) pos.line X.env = pure false := by rfl) (hf : X.fn x = true ∨ X.env.scope.names.lookup x = some .local := by first | exact .inl rfl | exact .inr rfl) : Js X T F δ (.Assign [.Name x pos'] e pos :: rest) Q :=
  Js.cons (Js1.set (Q := fun δ' => δ' = δ.set j (some d)) (P := fun d' => d' = d) hN (Je.of ok h rfl) (fun d' e => by rw [e]) n hi hx hs hf) fun δ1 e => by
    rw [e]
    exact hr
theorem Jr.ifFD {c : Expr} {thn : List Stmt} (ok : SaOk F) (hc : Dt X T δ c false) (h : Jr X T F δ rest P) : Jr X T F δ (.If c thn [] pos :: rest) P := Jr.ifF (Jt.of ok hc) h
theorem Jr.ifTD {c : Expr} {thn : List Stmt} {Q : List (Option PyData) → Prop} (ok : SaOk F) (hc : Dt X T δ c true) (h : Js X T F δ thn Q) (hr : ∀ δ1, Q δ1 → Jr X T F δ1 rest P) : Jr X T F δ (.If c thn [] pos :: rest) P := Jr.next (Js1.ifT (Jt.of ok hc) h) hr
end
end LB
end
section
set_option autoImplicit false
set_option Elab.async false
set_option linter.all false
set_option maxRecDepth 100000
set_option maxHeartbeats 4000000
/-! Walks: what stands beneath a value. -/
namespace LB
open PySem PySem.Spec PySem.W PyProof.Rows L2 LamX
theorem Jr.pre {X : Cx} {T : List (Addr × Str)} {F : Sa} {δ δ' : List (Option PyData)} {sts : List Stmt} {P : PyData → Prop} (w : Sub δ' δ) (h : Jr X T F δ' sts P) : Jr X T F δ sts P := fun σ H E J q => h σ H E (J.weak w) q
theorem forms_ex {s : S} : ∀ fs : List PyData, (∀ r ∈ fs, PT s r) → ∃ es : List PyData, es.length = fs.length ∧ ∀ (k : Nat) r e, fs[k]? = some r → es[k]? = some e → FormR s r e
  | [], _ => ⟨[], rfl, fun k r e h => by simp at h⟩
  | r :: fs, h => by
    obtain ⟨es, l, q⟩ := forms_ex fs fun z hz => h z (List.mem_cons_of_mem _ hz)
    obtain ⟨d, hd⟩ := form_ex (h r List.mem_cons_self)
    refine ⟨d :: es, by rw [List.length_cons, List.length_cons, l], fun k r' e h1 h2 => ?_⟩
    cases k with
    | zero =>
      cases h1
      cases h2
      exact hd
    | succ k => exact q k r' e (by simpa using h1) (by simpa using h2)
theorem strs_inj : ∀ {a b : List Str}, a.map PyData.str = b.map PyData.str → a = b
  | [], [], _ => rfl
  | [], _ :: _, h => by cases h
  | _ :: _, [], h => by cases h
  | x :: a, y :: b, h => by
    rw [List.map_cons, List.map_cons] at h
    injection h with h1 h2
    injection h1 with h1
    rw [h1, strs_inj h2]
theorem enc_inj : ∀ a b : S, a.enc = b.enc → a = b := by
  have kd : ∀ a b : S, a.enc = b.enc → kindS a = kindS b := fun a b h => by
    obtain ⟨r1, h1⟩ := enc_head a
    obtain ⟨r2, h2⟩ := enc_head b
    rw [h1, h2] at h
    injection h with h
    injection h with h
    injection h
  intro a
  induction a with
  | mark ls =>
    intro b h
    have k := kd _ b h
    cases b with
    | mark ms =>
      unfold S.enc at h
      injection h with h
      injection h with _ h
      injection h with h
      injection h with h
      rw [strs_inj h]
    | _ =>
      simp only [kindS] at k
      exact absurd k (by decide +kernel)
  | count =>
    intro b h
    have k := kd _ b h
    cases b with
    | count => rfl
    | _ =>
      simp only [kindS] at k
      exact absurd k (by decide +kernel)
  | both x y ih1 ih2 =>
    intro b h
    have k := kd _ b h
    cases b with
    | both x' y' =>
      unfold S.enc at h
      injection h with h
      injection h with _ h
      injection h with h1 h
      injection h with h2
      rw [ih1 _ h1, ih2 _ h2]
    | _ =>
      simp only [kindS] at k
      exact absurd k (by decide +kernel)
  | either x y ih1 ih2 =>
    intro b h
    have k := kd _ b h
    cases b with
    | either x' y' =>
      unfold S.enc at h
      injection h with h
      injection h with _ h
      injection h with h1 h
      injection h with h2
      rw [ih1 _ h1, ih2 _ h2]
    | _ =>
      simp only [kindS] at k
      exact absurd k (by decide +kernel)
  | lane x ih =>
    intro b h
    have k := kd _ b h
    cases b with
    | lane x' =>
      unfold S.enc at h
      injection h with h
      injection h with _ h
      injection h with h1
      rw [ih _ h1]
    | _ =>
      simp only [kindS] at k
      exact absurd k (by decide +kernel)
  | heap x ih =>
    intro b h
    have k := kd _ b h
    cases b with
    | heap x' =>
      unfold S.enc at h
      injection h with h
      injection h with _ h
      injection h with h1
      rw [ih _ h1]
    | _ =>
      simp only [kindS] at k
      exact absurd k (by decide +kernel)
def ifBody : Stmt → List Stmt
  | .If _ b _ _ => b
  | _ => []
def PreBen (n : Nat) (ds : List PyData) : Prop := ∃ (s : S) (v : PyData), ds = [s.enc, v] ∧ Wf s ∧ LB.T s v ∧ dep s ≤ 5 ∧ dep s ≤ n ∧ cap s v ≤ 125
def RBen (ds : List PyData) (d : PyData) : Prop := ∀ (s : S) (v : PyData), ds = [s.enc, v] → ∃ res : List PyData, d = .list res ∧ BenOk s v res
theorem tup_sets {s : S} {es : List PyData} (w : Wf s) (h5 : dep s ≤ 5) (ht : ∀ d, LB.T s d → ∃ xs, d = .tuple xs) (h : ∀ d ∈ es, LB.T s d) : SetsOk es :=
  .inr (.inr ⟨fun d hd => ht d (h d hd), fun d hd => by
    have := (T_ok s d w (h d hd)).2
    omega⟩)
theorem Dt.kindRow {X : Cx} {T : List (Addr × Str)} {δ : List (Option PyData)} {e : Expr} {s : S} {k : Str} {r : Bool} {j j2 j3 x1 : Nat} {p3 p4 p5 pos q q2 : Pos} (h : De X T δ e s.enc) (hk : kindS s = k := by rfl) (hr : inS k ["lane", "heap"] = r := by decide +kernel)
    (he : starEach [Expr.Constant (.str "lane") j2 p4, .Constant (.str "heap") j3 p5] X.env = (false, eval (.Constant (.str "lane") j2 p4) X.env) :: starEach [.Constant (.str "heap") j3 p5] X.env := by rfl) (he2 : starEach [Expr.Constant (.str "heap") j3 p5] X.env = (false, eval (.Constant (.str "heap") j3 p5) X.env) :: starEach [] X.env := by rfl) :
    Dt X T δ (.Compare (.Subscript e (.Constant (.int 0) j p3) pos) [.In] [.Tuple [.Constant (.str "lane") j2 p4, .Constant (.str "heap") j3 p5] x1 q2] q) r :=
  Dt.cast (Dt.inT (z := kindS s) (zs := ["lane", "heap"]) (De.kind h) (De.tup (Da.cons De.str (Da.cons De.str Da.nil he2) he))) (by rw [hk]; exact hr)
section
variable {P : Program} {w : World} {K : PySem.W.Frag} {mg : Str → Option Value} {base : Heap} {T : List (Addr × Str)} {f : Addr} {fd : FuncData}
theorem FdN.mkC {k m : Nat} {x : Str} {st : Stmt} {f c : Addr} {fd : FuncData} {N ps : List Str} {Pre : List PyData → Prop} {R : List PyData → PyData → Prop} (F : FunC K x st f fd c) (hm : mg x = some (.ref f)) (hb : Binds K fd ps [])
    (S : FnScope N ps (defScope st)) (len : ∀ ds, Pre ds → ds.length = ps.length)
    (body : ∀ (A : Around) (outer : List Env) (s : Shared) (H : Hp) (E : XK) (ds : List PyData), Room k (A.deeper (envOfC x (defScope st) s.heap.objs.size f (.ref c))) → Pre ds →
      Jr (cxOf CX0 P w K mg base N x (defScope st) f (.ref c) A outer s H E).nox T sa0 (ds.map some ++ List.replicate m none) (defBody st) (R ds)) : FdN P w K mg base T (k + 1) x Pre R := by
  refine ⟨f, fd, ps, hm, F.kp, hb, ?_⟩
  obtain ⟨oc, od, kV, doc, pm, an, ct, osl, rfl, lk, hcd⟩ := F.ex
  refine fn_of lk hcd S (fun vs H Q E ⟨ds, dv, _, r, _⟩ => by rw [dpAll_len dv]; exact len ds r) fun A outer s H vs Q E hr ⟨ds, dv, t, r, q⟩ => ?_
  have hl : vs.length ≤ N.length := by
    rw [dpAll_len dv, len ds r]
    have := congrArg List.length S.pre
    rw [List.length_take] at this
    omega
  exact ⟨_, (pss_ev (X := (cxOf CX0 P w K mg base N x (defScope st) f (.ref c) A outer s H E).nox)).nox, body A outer s H E ds hr r _ _ _ ⟨start_len hl, (fun p hp => by cases hp), True.intro, start_ds dv m, t⟩ fun d v H' rd _ g dd => q d v H' rd g dd⟩
abbrev sBen : Stmt := top 56
abbrev nBen : List Str := ["_law_sort", "_law_v", "_law_found", "_law_u", "_law_others", "_law_part", "_law_longer", "_law_other", "_law_row"]
theorem sc_ben : FnScope nBen ["_law_sort", "_law_v"] (defScope sBen) := ⟨rfl, rfl, rfl, by decide +kernel, rfl, by decide +kernel, by decide +kernel⟩
theorem w_ben {c Pp : Addr} (F : FunC K "_law_beneath" sBen f fd c) (hm : mg "_law_beneath" = some (.ref f)) (hb : Binds K fd ["_law_sort", "_law_v"] []) (G : Gb w mg K) (LA : LamAt base mg T "_law_beneath" c Pp) (FK : Fd P w K mg base T 6 "_law_key" (RLKey 5)) (FF : Fd P w K mg base T 15 "_law_formed" (RLF 5)) :
    ∀ n, FdN P w K mg base T (n + 20) "_law_beneath" (PreBen n) RBen
  | 0 => FdN.mkC (k := 19) (m := 7) F hm hb sc_ben (fun ds ⟨_, _, e, _⟩ => by rw [e]; rfl) fun A outer s H E ds hr ⟨s0, _, _, _, _, _, h, _⟩ => by have := dep_pos s0; omega
  | n + 1 => by
    have IH := w_ben F hm hb G LA FK FF n
    show FdN P w K mg base T ((n + 20) + 1) _ _ _
    refine FdN.mkC (m := 7) F hm hb sc_ben (fun ds ⟨_, _, e, _⟩ => by rw [e]; rfl) fun A outer sh H E ds hr ⟨s, v, e1, wf, ht, h5, hn, hcap⟩ => ?_
    subst e1
    have hfr := G.fr
    let X : Cx := (cxOf CX0 P w K mg base nBen "_law_beneath" (defScope sBen) f (.ref c) A outer sh H E).nox
    have hu : X.A.units + 64 < cLine := hr.units
    let δf : List PyData → List (Option PyData) := fun fs => [some s.enc, some v, some (.list fs), none, none, none, none, none, none]
    have fin : ∀ fs : List PyData, Fnd s v fs → (∀ es : List PyData, es.length = fs.length → (∀ d ∈ es, LB.T s d) → SetsOk es) → Jr X T sa0 (δf fs) ((defBody sBen).drop 5) (RBen [s.enc, v]) := by
      intro fs fn so
      obtain ⟨es, le, fes⟩ := forms_ex fs fn.pt
      have fr1 : ∀ e ∈ es, ∃ r ∈ fs, FormR s r e := fun e he => by
        obtain ⟨k, hk⟩ := List.getElem?_of_mem he
        have hk2 : k < fs.length := by rw [← le]; exact (List.getElem?_eq_some_iff.mp hk).1
        exact ⟨_, List.getElem_mem hk2, fes k _ e (List.getElem?_eq_getElem hk2) hk⟩
      have fr2 : ∀ r ∈ fs, ∃ e ∈ es, FormR s r e := fun r hr => by
        obtain ⟨k, hk⟩ := List.getElem?_of_mem hr
        have hk2 : k < es.length := by rw [le]; exact (List.getElem?_eq_some_iff.mp hk).1
        exact ⟨_, List.getElem_mem hk2, fes k r _ hk (List.getElem?_eq_getElem hk2)⟩
      have tes : ∀ e ∈ es, LB.T s e := fun e he => by
        obtain ⟨r, hr, fo⟩ := fr1 e he
        exact FormR.t (fn.pt r hr) fo
      have mem := fn.fin es fr1 fr2
      have len := fn.len
      refine Jr.next (Q := fun δ1 => ∃ ns : List PyData, (∀ d ∈ ns, d ∈ es) ∧ (∀ d ∈ es, d ∈ ns) ∧ ns.length ≤ es.length ∧ δ1 = δf ns) (Js1.set (j := 2) (P := fun d => ∃ ns : List PyData, (∀ d ∈ ns, d ∈ es) ∧ (∀ d ∈ es, d ∈ ns) ∧ ns.length ≤ es.length ∧ d = .list ns) sc_ben.nd
        (Je.sortedSet (ds := es) hfr rfl hu (De.lcm (es := es) rfl sc_ben.nd (src_l (i := 3) (dv 2 (d := .list fs)) (fun _ _ _ _ _ => pg_name sc_ben.nd rfl (Or.inl rfl))) ?_ ?_ (fun j b e hb he s2 H2 C cl fp => ?_) (blkOk_by (N := nBen) (sc := defScope sBen) (own := [("_law_u", 3)]) (by decide +kernel))) (T_ord wf h5 tes) (so es le tes) (by omega) fun ns a b c => ⟨ns, a, b, c, rfl⟩)
        (fun d ⟨ns, a, b, c, e⟩ => ⟨ns, a, b, c, by rw [e]; rfl⟩) (fun z => nomatch z)) fun δ1 ⟨ns, n1, n2, n3, e1⟩ => ?_
      · rw [ones_len, le]
      · rw [ones_len]
        omega
      · obtain ⟨r, hr1, rfl⟩ := ones_at hb
        exact De.call FF (hr.mono (by omega)) (Da.cons (dv 0 (d := s.enc)) (Da.cons (dv 3 (d := r)) Da.nil)) ⟨s, r, rfl, fn.pt r (List.mem_of_getElem? hr1), h5, h5, fes j r e hr1 he⟩
      · subst e1
        obtain ⟨res, pr, sr⟩ := le_sort s ns
        have tns : ∀ d ∈ ns, LB.T s d := fun d hd => tes d (n1 d hd)
        refine Jr.ret (Je.of sa0_ok (De.sortL (k := 6) (j := 0) (p := "_law_u") (cn := "_law_sort") (kf := keyL s) (ds := ns) (cd := s.enc) hfr LA (.inl (dv 2 (d := .list ns))) (by omega) (keyL_ord h5 tns) (hr.mono (by omega)) (lamP_by (sc := defScope sBen) (by decide +kernel)) rfl (fun d hd s2 H2 f2 c2 rk => ?_) fun ds' pm pw2 => sorted_lkey tns pr sr pm pw2) ?_)
        · exact De.call FK rk (Da.cons (dv 1 (d := s.enc)) (Da.cons (dv 0 (d := d)) Da.nil)) ⟨s, d, rfl, tns d hd, h5, rfl⟩
        · intro s1 v1 e2
          injection e2 with e3 e4
          injection e4 with e4
          cases enc_inj _ _ e3
          cases e4
          exact ⟨res, rfl, fun u => by rw [pr.mem_iff, ← mem u]; exact ⟨n1 u, n2 u⟩, sr, by rw [pr.length_eq]; omega⟩
    have ben : ∀ {a : S} {x d : PyData}, RBen [a.enc, x] d → ∃ A : List PyData, d = .list A ∧ BenOk a x A := fun r => r _ _ rfl
    have rowsJ : ∀ (a : S) (vs : List PyData) (k : Str), v = .tuple vs → s.enc = .tuple [.str k, a.enc] → vs.length ≤ 3 → Wf a → (∀ x ∈ vs, LB.T a x) → dep a ≤ 5 → dep a ≤ n → prod (vs.map fun x => 1 + cap a x) ≤ 125 →
        Js X T sa0 (δf [v]) (ifBody ((defBody sBen).getD 4 (.Pass ⟨0, 0, 0, 0⟩))) (fun δ1 => ∃ fs : List PyData, Rows a vs fs ∧ fs.length ≤ prod (vs.map fun x => 1 + cap a x) ∧ δ1 = δf fs) := by
      intro a vs k ev es h3 wa hx d5 dn hp
      subst ev
      refine Js.setD (j := 2) (d := .list [.tuple []]) sa0_ok sc_ben.nd (De.lst (Da.cons (De.tup Da.nil) Da.nil)) (Js.cons (Js1.for_ (i := 5) (PL := fun L => L = vs) PassesOwn.never rfl sa0_ok (jsrc_t (Je.of sa0_ok (dv 1 (d := .tuple vs)) ⟨vs, rfl, rfl⟩))
        (fun _ k δ1 => ∃ rs : List PyData, Rows a (vs.take k) rs ∧ rs.length ≤ prod ((vs.take k).map fun x => 1 + cap a x) ∧ δ1 = δf rs) (fun _ _ => ⟨[.tuple []], by rw [List.take_zero]; exact rows_nil a, by rw [List.take_zero]; exact Nat.le_refl _, rfl⟩) (fun L eL k d δ1 hk ⟨rs, hrs, lrs, e1⟩ => ?_)
        (fun L δ1 eL ⟨rs, hrs, lrs, e1⟩ => (⟨rs, by rw [eL, List.take_length] at hrs; exact hrs, by rw [eL, List.take_length] at lrs; exact lrs, e1⟩ : ∃ fs : List PyData, Rows a vs fs ∧ fs.length ≤ prod (vs.map fun x => 1 + cap a x) ∧ δ1 = δf fs)) (fun z => nomatch z) (hg := pg_name sc_ben.nd rfl (Or.inl rfl))) fun δ1 h => Js.nil h)
      subst eL e1
      have md := List.mem_of_getElem? hk
      have td := hx d md
      have cd := cap_row (a := a) md
      have tk : L.take (k + 1) = L.take k ++ [d] := by rw [List.take_add_one, hk]; rfl
      have pk := prod_take (a := a) L (k + 1)
      have pk1 : prod ((L.take (k + 1)).map fun x => 1 + cap a x) = prod ((L.take k).map fun x => 1 + cap a x) * (1 + cap a d) := by
        rw [tk, List.map_append]
        exact prod_snoc _ _
      let δi : List PyData → List PyData → List (Option PyData) := fun rs lg => [some s.enc, some (.tuple L), some (.list rs), none, none, some d, some (.list lg), none, none]
      have small : ∀ {n : Nat}, n ≤ cap a d → rs.length * (1 + n) ≤ 125 := fun {n} hn => by
        have h1 : rs.length * (1 + n) ≤ prod ((L.take k).map fun x => 1 + cap a x) * (1 + cap a d) := Nat.mul_le_mul lrs (by omega)
        omega
      refine Js.setD (j := 6) (d := .list []) sa0_ok sc_ben.nd (De.lst Da.nil) (Js.cons (Js1.for_ (i := 3) (PL := fun A => BenOk a d A) (Q := fun δ1 => ∃ A : List PyData, BenOk a d A ∧ δ1 = δi rs (lgr rs A)) PassesOwn.never rfl sa0_ok (jsrc_l (Je.call0 IH hr (Da.cons (De.ixT (k := 1) (d := a.enc) (De.cast (dv 0 (d := s.enc)) es) De.int rfl) (Da.cons (dv 5 (d := d)) Da.nil)) ⟨a, d, rfl, wa, td, d5, dn, by omega⟩ (fun d r => ben r)))
        (fun A m δ1 => δ1 = δi rs (lgr rs (A.take m))) (fun A _ => rfl) (fun A hA m u δ1 hm e1 => ?_) (fun A δ1 hA e1 => ⟨A, hA, by rw [e1, List.take_length]⟩) (fun z => nomatch z) (hg := pg_name sc_ben.nd rfl (Or.inr rfl))) fun δ1 ⟨A, hA, e1⟩ => ?_)
      · subst e1
        have lA := hA.len
        have sm := small lA
        rw [Nat.mul_add, Nat.mul_one] at sm
        have ml := (List.getElem?_eq_some_iff.mp hm).1
        have l1 : (A.take m).length * rs.length ≤ A.length * rs.length := Nat.mul_le_mul_right _ (List.length_take_le' ..)
        have l2 : A.length * rs.length = rs.length * A.length := Nat.mul_comm _ _
        refine Js.weak (Js.setD (j := 6) sa0_ok sc_ben.nd (De.cast (d' := .list (lgr rs (A.take (m + 1)))) (De.catL (dv 6 (d := .list (lgr rs (A.take m)))) (De.lcm (es := rs.map fun r => addU r u) rfl sc_ben.nd (src_l (i := 8) (dv 2 (d := .list rs)) (fun _ _ _ _ _ => pg_name sc_ben.nd rfl (Or.inl rfl))) ?_ ?_ (fun j b2 e hb2 he s2 H2 C cl fp => ?_) (blkOk_by (N := nBen) (sc := defScope sBen) (own := [("_law_row", 8)]) (by decide +kernel))) ?_) ?_) (Js.nil rfl)) fun δ2 e2 => ⟨_, rfl, by subst e2; exact Sub.tl (Sub.tl (Sub.tl (Sub.no (Sub.tl (Sub.tl (Sub.tl (Sub.tl (Sub.tl Sub.ni))))))))⟩
        · rw [ones_len, List.length_map]
        · rw [ones_len]
          omega
        · obtain ⟨r, hr1, rfl⟩ := ones_at hb2
          rw [List.getElem?_map, hr1] at he
          cases he
          obtain ⟨⟨us, rfl, lus, _⟩, _⟩ := rows_pt hrs (by rw [List.length_take]; omega) r (List.mem_of_getElem? hr1)
          exact De.catT (dv 8 (d := .tuple us)) (De.tup (Da.cons (dv 3 (d := u)) Da.nil)) (by rw [List.length_singleton]; omega)
        · rw [lgr_len, List.length_map]
          omega
        · refine congrArg PyData.list ?_
          unfold lgr
          rw [take_flatM hm]
      · subst e1
        have lA := hA.len
        have sm := small lA
        have lg : (rs ++ lgr rs A).length = rs.length * (1 + A.length) := rows_len
        refine Js.weak (Js.setD (j := 2) (d := .list (rs ++ lgr rs A)) sa0_ok sc_ben.nd (De.catL (dv 2 (d := .list rs)) (dv 6 (d := .list (lgr rs A))) (by
          rw [List.length_append] at lg
          omega)) (Js.nil rfl)) fun δ2 e2 => ⟨δf (rs ++ lgr rs A), ⟨rs ++ lgr rs A, ?_, ?_, rfl⟩, by subst e2; exact Sub.tl (Sub.tl (Sub.tl (Sub.tl (Sub.tl (Sub.no (Sub.no (Sub.tl (Sub.tl Sub.ni))))))))⟩
        · rw [tk]
          exact rows_snoc hrs hA.mem
        · rw [lg, pk1]
          exact Nat.mul_le_mul lrs (by omega)
    cases s with
    | mark ls =>
      refine Jr.setD (j := 2) sa0_ok sc_ben.nd (De.lst (Da.cons (dv 1 (d := v)) Da.nil)) (Jr.ifFD sa0_ok (Dt.kindIs (k := kMark) (s := .mark ls) (dv 0)) (Jr.ifFD sa0_ok (Dt.kindIs (k := kMark) (s := .mark ls) (dv 0)) (Jr.ifFD sa0_ok (Dt.kindIs (k := kMark) (s := .mark ls) (dv 0)) (Jr.ifFD sa0_ok (Dt.kindRow (k := kMark) (s := .mark ls) (dv 0)) (fin [v] (fnd_plain (fun r d e => e) (fun r h => h) (ben_mark ht) (Nat.le_refl _)) fun es le te => ?_)))))
      match es, le with
      | [d], _ =>
        obtain ⟨x, _, rfl⟩ := te d List.mem_cons_self
        exact .inr (.inl ⟨x, rfl⟩)
    | count =>
      obtain ⟨m, hm3, rfl⟩ := ht
      refine Jr.setD (j := 2) sa0_ok sc_ben.nd (De.lst (Da.cons (dv 1 (d := .int (m : Nat))) Da.nil)) (Jr.ifTD (Q := fun δ1 => δ1 = δf (upto (m + 1))) sa0_ok (Dt.kindIs (k := kCount) (s := .count) (dv 0)) (Js.setD (j := 2) sa0_ok sc_ben.nd (De.listRange (m := m + 1) hfr rfl (De.cast (De.add (dv 1 (d := .int (m : Nat))) De.int) rfl) (by omega)) (Js.nil rfl)) fun δ1 e1 => ?_)
      subst e1
      refine Jr.ifFD sa0_ok (Dt.kindIs (k := kCount) (s := .count) (dv 0)) (Jr.ifFD sa0_ok (Dt.kindIs (k := kCount) (s := .count) (dv 0)) (Jr.ifFD sa0_ok (Dt.kindRow (k := kCount) (s := .count) (dv 0)) (fin _ (fnd_plain (fun r d e => e) (fun r h => h) (ben_count hm3) (by rw [upto_len]; exact Nat.le_refl _)) fun es le te => .inl fun d hd => ?_)))
      obtain ⟨i, _, e⟩ := te d hd
      exact ⟨_, e⟩
    | both a b =>
      obtain ⟨x, y, rfl, hx, hy⟩ := ht
      have da := d_b1 (a := a) (b := b)
      have db := d_b2 (a := a) (b := b)
      have ca := cap_b1 (a := a) (x := x) hy
      have cb := cap_b2 (b := b) (y := y) hx
      refine Jr.setD (j := 2) sa0_ok sc_ben.nd (De.lst (Da.cons (dv 1 (d := .tuple [x, y])) Da.nil)) (Jr.ifFD sa0_ok (Dt.kindIs (k := kBoth) (s := .both a b) (dv 0)) (Jr.ifFD sa0_ok (Dt.kindIs (k := kBoth) (s := .both a b) (dv 0)) (Jr.ifTD (Q := fun δ1 => ∃ A B : List PyData, BenOk a x A ∧ BenOk b y B ∧ δ1 = (δf (prs A B)).set 4 (some (.list B))) sa0_ok (Dt.kindIs (k := kBoth) (s := .both a b) (dv 0)) ?_ fun δ1 ⟨A, B, hA, hB, e1⟩ => ?_)))
      · refine Js.cons (Q := fun δ1 => ∃ B : List PyData, BenOk b y B ∧ δ1 = (δf []).set 4 (some (.list B))) (Js1.parL (i := 2) (j := 4) rfl sc_ben.nd (Je.call0 IH hr (Da.cons (De.ixT (k := 2) (d := b.enc) (De.enc (s := .both a b) (dv 0)) De.int rfl) (Da.cons (De.ixT (k := 1) (d := y) (dv 1 (d := .tuple [x, y])) De.int rfl) Da.nil)) ⟨b, y, rfl, wf.2, hy, by omega, by omega, by omega⟩ (fun d r => ben r)) fun d ⟨B, e, hB⟩ => ⟨B, hB, by rw [e]; rfl⟩) fun δ1 ⟨B, hB, e1⟩ => ?_
        subst e1
        have lB := hB.len
        refine Js.cons (Js1.for_ (i := 3) (PL := fun A => BenOk a x A) PassesOwn.never rfl sa0_ok (jsrc_l (Je.call0 IH hr (Da.cons (De.ixT (k := 1) (d := a.enc) (De.enc (s := .both a b) (dv 0)) De.int rfl) (Da.cons (De.ixT (k := 0) (d := x) (dv 1 (d := .tuple [x, y])) De.int rfl) Da.nil)) ⟨a, x, rfl, wf.1, hx, by omega, by omega, by omega⟩ (fun d r => ben r)))
          (fun A k δ1 => δ1 = (δf (prs (A.take k) B)).set 4 (some (.list B))) (fun A _ => rfl) (fun A hA k d δ1 hk e1 => ?_) (fun A δ1 hA e1 => (⟨A, B, hA, hB, by rw [e1, List.take_length]⟩ : ∃ A B : List PyData, BenOk a x A ∧ BenOk b y B ∧ δ1 = (δf (prs A B)).set 4 (some (.list B)))) (fun z => nomatch z) (hg := pg_name sc_ben.nd rfl (Or.inr rfl))) fun δ1 h => Js.nil h
        subst e1
        have lA := hA.len
        have kl := (List.getElem?_eq_some_iff.mp hk).1
        have lt : (A.take k).length * B.length ≤ A.length * B.length := Nat.mul_le_mul_right _ (List.length_take_le' ..)
        have lm : A.length * B.length ≤ cap a x * cap b y := Nat.mul_le_mul lA lB
        have hc2 : cap a x * cap b y ≤ 125 := hcap
        refine Js.weak (Js.setD (j := 2) sa0_ok sc_ben.nd (De.cast (d' := .list (prs (A.take (k + 1)) B)) (De.catL (dv 2 (d := .list (prs (A.take k) B))) (De.lcm (es := B.map fun q => .tuple [d, q]) rfl sc_ben.nd (src_l (i := 7) (dv 4 (d := .list B)) (fun _ _ _ _ _ => pg_name sc_ben.nd rfl (Or.inl rfl))) ?_ ?_ (fun j b2 e hb2 he s2 H2 C cl fp => ?_) (blkOk_by (N := nBen) (sc := defScope sBen) (own := [("_law_other", 7)]) (by decide +kernel))) ?_) ?_) (Js.nil rfl)) fun δ2 e2 => ⟨_, rfl, by subst e2; exact Sub.tl (Sub.tl (Sub.tl (Sub.no (Sub.tl (Sub.tl (Sub.tl (Sub.tl (Sub.tl Sub.ni))))))))⟩
        · rw [ones_len, List.length_map]
        · rw [ones_len]
          omega
        · obtain ⟨r, hr1, rfl⟩ := ones_at hb2
          rw [List.getElem?_map, hr1] at he
          cases he
          exact De.tup (Da.cons (dv 3 (d := d)) (Da.cons (dv 7 (d := r)) Da.nil))
        · rw [prs_len, List.length_map]
          omega
        · refine congrArg PyData.list ?_
          unfold prs
          rw [take_flatM hk]
      · subst e1
        have lA := hA.len
        have lB := hB.len
        refine Jr.ifFD sa0_ok (Dt.kindRow (k := kBoth) (s := .both a b) (dv 0)) (Jr.pre (by exact Sub.tl (Sub.tl (Sub.tl (Sub.tl (Sub.no (Sub.tl (Sub.tl (Sub.tl (Sub.tl Sub.ni))))))))) (fin (prs A B) (fnd_plain (fun r d e => e) (fun r h => h) (ben_both hA.mem hB.mem) (by rw [prs_len]; exact Nat.mul_le_mul lA lB)) fun es le te => tup_sets wf h5 (fun d ⟨_, _, e, _⟩ => ⟨_, e⟩) te))
    | either a b =>
      have da := d_e1 (a := a) (b := b)
      have db := d_e2 (a := a) (b := b)
      rcases id ht with ⟨x, rfl, hx⟩ | ⟨x, rfl, hx⟩
      · rw [cap_e1] at hcap
        refine Jr.setD (j := 2) sa0_ok sc_ben.nd (De.lst (Da.cons (dv 1 (d := .tuple [.str sL, x])) Da.nil)) (Jr.ifFD sa0_ok (Dt.kindIs (k := kEither) (s := .either a b) (dv 0)) (Jr.ifTD (Q := fun δ1 => ∃ A : List PyData, BenOk a x A ∧ δ1 = δf (A.map fun p => .tuple [.str sL, p])) sa0_ok (Dt.kindIs (k := kEither) (s := .either a b) (dv 0)) ?_ fun δ1 ⟨A, hA, e1⟩ => ?_))
        · refine Js.cons (Js1.lc (i := 3) (j := 2) (PL := fun A => BenOk a x A) (PE := fun A k r => ∃ p, A[k]? = some p ∧ r = .tuple [.str sL, p]) (Q := fun δ1 => ∃ A : List PyData, BenOk a x A ∧ δ1 = δf (A.map fun p => .tuple [.str sL, p])) sa0_ok rfl sc_ben.nd
            (jsrc_l (Je.call0 IH hr (Da.cons (De.ixT (k := 1) (d := a.enc) (De.enc (s := .either a b) (dv 0)) (De.cast (De.add De.int (De.intB (k := false) hfr (De.cast (De.eqS (De.ixT (k := 0) (d := .str sL) (dv 1 (d := .tuple [.str sL, x])) De.int rfl) De.str) (congrArg PyData.bool (by decide +kernel))))) rfl) rfl) (Da.cons (De.ixT (k := 1) (d := x) (dv 1 (d := .tuple [.str sL, x])) De.int rfl) Da.nil)) ⟨a, x, rfl, wf.1, hx, by omega, by omega, hcap⟩ (fun d r => ben r)))
            (fun A hA => by have := hA.len; omega) (fun z => nomatch z) (fun z => nomatch z) (fun A hA k d hd s2 H2 C cl fp => Je.of sa0_ok (De.tup (Da.cons (De.ixT (k := 0) (d := .str sL) (dv 1 (d := .tuple [.str sL, x])) De.int rfl) (Da.cons (dv 3 (d := d)) Da.nil))) ⟨d, hd, rfl⟩) (fun A rs hA lr pe => ⟨A, hA, by rw [map_of lr pe]; rfl⟩)
            (blkOk_by (N := nBen) (sc := defScope sBen) (own := [("_law_u", 3)]) (by decide +kernel)) (sw_true rfl rfl rfl rfl) (hg := fun _ _ _ _ _ => pg_name sc_ben.nd rfl (Or.inl rfl))) fun δ1 h => Js.nil h
        · subst e1
          have lA := hA.len
          exact Jr.ifFD sa0_ok (Dt.kindIs (k := kEither) (s := .either a b) (dv 0)) (Jr.ifFD sa0_ok (Dt.kindRow (k := kEither) (s := .either a b) (dv 0)) (fin _ (fnd_plain (fun r d e => e) (fun r h => h) (ben_left hA.mem) (by rw [List.length_map, cap_e1]; exact lA)) fun es le te => tup_sets wf h5 (fun d q => by
            rcases q with ⟨_, e, _⟩ | ⟨_, e, _⟩ <;> exact ⟨_, e⟩) te))
      · rw [cap_e2] at hcap
        refine Jr.setD (j := 2) sa0_ok sc_ben.nd (De.lst (Da.cons (dv 1 (d := .tuple [.str sR, x])) Da.nil)) (Jr.ifFD sa0_ok (Dt.kindIs (k := kEither) (s := .either a b) (dv 0)) (Jr.ifTD (Q := fun δ1 => ∃ A : List PyData, BenOk b x A ∧ δ1 = δf (A.map fun p => .tuple [.str sR, p])) sa0_ok (Dt.kindIs (k := kEither) (s := .either a b) (dv 0)) ?_ fun δ1 ⟨A, hA, e1⟩ => ?_))
        · refine Js.cons (Js1.lc (i := 3) (j := 2) (PL := fun A => BenOk b x A) (PE := fun A k r => ∃ p, A[k]? = some p ∧ r = .tuple [.str sR, p]) (Q := fun δ1 => ∃ A : List PyData, BenOk b x A ∧ δ1 = δf (A.map fun p => .tuple [.str sR, p])) sa0_ok rfl sc_ben.nd
            (jsrc_l (Je.call0 IH hr (Da.cons (De.ixT (k := 2) (d := b.enc) (De.enc (s := .either a b) (dv 0)) (De.cast (De.add De.int (De.intB (k := true) hfr (De.cast (De.eqS (De.ixT (k := 0) (d := .str sR) (dv 1 (d := .tuple [.str sR, x])) De.int rfl) De.str) (congrArg PyData.bool (by decide +kernel))))) rfl) rfl) (Da.cons (De.ixT (k := 1) (d := x) (dv 1 (d := .tuple [.str sR, x])) De.int rfl) Da.nil)) ⟨b, x, rfl, wf.2, hx, by omega, by omega, hcap⟩ (fun d r => ben r)))
            (fun A hA => by have := hA.len; omega) (fun z => nomatch z) (fun z => nomatch z) (fun A hA k d hd s2 H2 C cl fp => Je.of sa0_ok (De.tup (Da.cons (De.ixT (k := 0) (d := .str sR) (dv 1 (d := .tuple [.str sR, x])) De.int rfl) (Da.cons (dv 3 (d := d)) Da.nil))) ⟨d, hd, rfl⟩) (fun A rs hA lr pe => ⟨A, hA, by rw [map_of lr pe]; rfl⟩)
            (blkOk_by (N := nBen) (sc := defScope sBen) (own := [("_law_u", 3)]) (by decide +kernel)) (sw_true rfl rfl rfl rfl) (hg := fun _ _ _ _ _ => pg_name sc_ben.nd rfl (Or.inl rfl))) fun δ1 h => Js.nil h
        · subst e1
          have lA := hA.len
          exact Jr.ifFD sa0_ok (Dt.kindIs (k := kEither) (s := .either a b) (dv 0)) (Jr.ifFD sa0_ok (Dt.kindRow (k := kEither) (s := .either a b) (dv 0)) (fin _ (fnd_plain (fun r d e => e) (fun r h => h) (ben_right hA.mem) (by rw [List.length_map, cap_e2]; exact lA)) fun es le te => tup_sets wf h5 (fun d q => by
            rcases q with ⟨_, e, _⟩ | ⟨_, e, _⟩ <;> exact ⟨_, e⟩) te))
    | lane a =>
      obtain ⟨vs, rfl, h3, hx⟩ := ht
      have da := d_l (a := a)
      refine Jr.setD (j := 2) sa0_ok sc_ben.nd (De.lst (Da.cons (dv 1 (d := .tuple vs)) Da.nil)) (Jr.ifFD sa0_ok (Dt.kindIs (k := kLane) (s := .lane a) (dv 0)) (Jr.ifFD sa0_ok (Dt.kindIs (k := kLane) (s := .lane a) (dv 0)) (Jr.ifFD sa0_ok (Dt.kindIs (k := kLane) (s := .lane a) (dv 0)) (Jr.ifTD sa0_ok (Dt.kindRow (k := kLane) (s := .lane a) (dv 0)) (rowsJ a vs kLane rfl rfl h3 wf hx (by omega) (by omega) hcap) fun δ1 ⟨fs, hfs, lfs, e1⟩ => ?_))))
      subst e1
      exact fin fs (fnd_plain (fun r d e => e) (fun r h => h) (ben_lane hfs h3) lfs) fun es le te => tup_sets wf h5 (fun d ⟨_, e, _⟩ => ⟨_, e⟩) te
    | heap a =>
      obtain ⟨vs, rfl, h3, hx, _⟩ := ht
      have da := d_h (a := a)
      refine Jr.setD (j := 2) sa0_ok sc_ben.nd (De.lst (Da.cons (dv 1 (d := .tuple vs)) Da.nil)) (Jr.ifFD sa0_ok (Dt.kindIs (k := kHeap) (s := .heap a) (dv 0)) (Jr.ifFD sa0_ok (Dt.kindIs (k := kHeap) (s := .heap a) (dv 0)) (Jr.ifFD sa0_ok (Dt.kindIs (k := kHeap) (s := .heap a) (dv 0)) (Jr.ifTD sa0_ok (Dt.kindRow (k := kHeap) (s := .heap a) (dv 0)) (rowsJ a vs kHeap rfl rfl h3 wf hx (by omega) (by omega) hcap) fun δ1 ⟨fs, hfs, lfs, e1⟩ => ?_))))
      subst e1
      exact fin fs (fnd_heap hfs h3 lfs) fun es le te => tup_sets wf h5 (fun d ⟨_, e, _⟩ => ⟨_, e⟩) te
end
end LB
end
section
set_option autoImplicit false
set_option Elab.async false
set_option linter.all false
set_option maxRecDepth 100000
set_option maxHeartbeats 4000000
/-! The law's source of numbers: a dict and a list of ours. -/
namespace LB
open PySem PySem.Spec PySem.W PyProof.Rows L2 LamX
abbrev qC : Key := Sum.inr "cells"
abbrev qL : Key := Sum.inr "left"
abbrev qM : Key := Sum.inr "mixed"
abbrev qT : Key := Sum.inr "turn"
def srcKV (C : Addr) (l m t : Int) : List (Key × V) := [(qC, .ref C), (qL, .int l), (qM, .int m), (qT, .int t)]
theorem nCL : ¬ qC = qL := by decide +kernel
theorem nCM : ¬ qC = qM := by decide +kernel
theorem nCT : ¬ qC = qT := by decide +kernel
theorem nLM : ¬ qL = qM := by decide +kernel
theorem nLT : ¬ qL = qT := by decide +kernel
theorem nML : ¬ qM = qL := by decide +kernel
theorem nMT : ¬ qM = qT := by decide +kernel
theorem nTL : ¬ qT = qL := by decide +kernel
theorem cons2 {α : Type} {a b : α} {x y : List α} (h : a = b) (q : x = y) : a :: x = b :: y := by rw [h, q]
section
variable {C : Addr} {l m t l' t' : Int}
theorem src_cells : valV (srcKV C l m t) qC = some (.ref C) := valV_pos rfl
theorem src_left : valV (srcKV C l m t) qL = some (.int l) := (valV_neg nCL).trans (valV_pos rfl)
theorem src_mixed : valV (srcKV C l m t) qM = some (.int m) := (valV_neg nCM).trans ((valV_neg nLM).trans (valV_pos rfl))
theorem src_turn : valV (srcKV C l m t) qT = some (.int t) := (valV_neg nCT).trans ((valV_neg nLT).trans ((valV_neg nMT).trans (valV_pos rfl)))
theorem src_putL : putK (srcKV C l m t) qL (.int l') = srcKV C l' m t := by
  unfold putK
  rw [if_pos (by rw [valV_any, src_left]; rfl)]
  exact cons2 (if_neg nCL) (cons2 (if_pos rfl) (cons2 (if_neg nML) (cons2 (if_neg nTL) rfl)))
theorem src_putT : putK (srcKV C l m t) qT (.int t') = srcKV C l m t' := by
  unfold putK
  rw [if_pos (by rw [valV_any, src_turn]; rfl)]
  exact cons2 (if_neg nCT) (cons2 (if_neg nLT) (cons2 (if_neg nMT) (cons2 (if_pos rfl) rfl)))
end
def SrcC (D C : Addr) (H : Hp) : Prop := ∃ (cells : List Int) (l m t : Int), H D = some (.dK (srcKV C l m t)) ∧ H C = some (.lst (cells.map V.int)) ∧ cells.length ≤ 1000
def srcF (D C : Addr) (i : Nat) : Sa := ⟨[D, C], [(i, .ref D)], SrcC D C⟩
theorem srcF_ok {D C : Addr} {i : Nat} (h : D ≠ C) : SaOk (srcF D C i) where
  nd := List.nodup_cons.mpr ⟨fun z => h (List.mem_singleton.mp z), List.nodup_cons.mpr ⟨(fun z => by cases z), List.nodup_nil⟩⟩
  mv := fun H ⟨cells, l, m, t, h1, h2, _⟩ a ha => by
    rcases List.mem_cons.mp ha with z | z
    · rw [z]
      exact ⟨_, h1, True.intro⟩
    · rw [List.mem_singleton.mp z]
      exact ⟨_, h2, True.intro⟩
  st := fun H H' ⟨cells, l, m, t, h1, h2, h3⟩ b => ⟨cells, l, m, t, (b D List.mem_cons_self).trans h1, (b C (List.mem_cons_of_mem _ List.mem_cons_self)).trans h2, h3⟩
/-- the promise of a def that draws from the source -/
def spS (T : List (Addr × Str)) (K : PySem.W.Frag) (Pre : List PyData → Prop) (R : List PyData → PyData → Prop) : Sp := fun vs H Q _ => ∃ (D C : Addr) (ws : List V) (ds : List PyData), vs = .ref D :: ws ∧ D ≠ C ∧ SrcC D C H ∧ DpAll K (hidL H [D, C]) ws ds ∧ Tabs T (hidL H [D, C]) ∧ Pre ds ∧
  ∀ d v H', R ds d → SrcC D C H' → Gw T (hidL H [D, C]) (hidL H' [D, C]) → Dp K (hidL H' [D, C]) v d → Q v H'
def FdS (P : Program) (w : World) (K : PySem.W.Frag) (mg : Str → Option Value) (base : Heap) (T : List (Addr × Str)) (k : Nat) (x : Str) (Pre : List PyData → Prop) (R : List PyData → PyData → Prop) : Prop :=
  ∃ f fd ps, mg x = some (.ref f) ∧ PySem.W.keepIn K (.ref f) = true ∧ Binds K fd ps [] ∧ FnOk P w K mg base CX0 k f fd ps (spS T K Pre R)
section
variable {P : Program} {w : World} {K : PySem.W.Frag} {mg : Str → Option Value} {base : Heap} {T : List (Addr × Str)} {j k : Nat} {x : Str} {Pre Pre' : List PyData → Prop} {R R' : List PyData → PyData → Prop}
theorem FdS.mono (h : FdS P w K mg base T j x Pre R) (hk : j ≤ k) : FdS P w K mg base T k x Pre R := by
  obtain ⟨f, fd, ps, a, b, c, F⟩ := h
  exact ⟨f, fd, ps, a, b, c, F.mono hk⟩
/-- a def that draws, by its body -/
theorem FdS.mk {m : Nat} {st : Stmt} {f : Addr} {fd : FuncData} {N ps : List Str} (F : Fun K x x st f fd) (hm : mg x = some (.ref f)) (hb : Binds K fd ps [])
    (S : FnScope N ps (defScope st)) (len : ∀ ds, Pre ds → ds.length + 1 = ps.length)
    (body : ∀ (cdv : Value) (A : Around) (outer : List Env) (s : Shared) (H : Hp) (E : XK) (ds : List PyData) (D C : Addr), D ≠ C → Room k (A.deeper (envOfC x (defScope st) s.heap.objs.size f cdv)) → Pre ds →
      Jr (cxOf CX0 P w K mg base N x (defScope st) f cdv A outer s H E).nox T (srcF D C 0) (none :: ds.map some ++ List.replicate m none) (defBody st) (R ds)) : FdS P w K mg base T (k + 1) x Pre R := by
  refine ⟨f, fd, ps, hm, F.kp, hb, F.ok S (fun vs H Q E ⟨D, C, ws, ds, e, _, _, dv, _, r, _⟩ => by rw [e, List.length_cons, dpAll_len dv]; exact len ds r) fun cdv A outer s H vs Q E hr ⟨D, C, ws, ds, e, ne, hsrc, dv, t, r, q⟩ => ?_⟩
  subst e
  have lw : ws.length + 1 = ps.length := by rw [dpAll_len dv]; exact len ds r
  have hl : (V.ref D :: ws).length ≤ N.length := by
    rw [List.length_cons, lw]
    have := congrArg List.length S.pre
    rw [List.length_take] at this
    omega
  refine ⟨_, pss_ev, body cdv A outer s H E ds D C ne hr r _ _ _ ⟨start_len hl, fun p hp => ?_, hsrc, fun i d hi => ?_, t⟩ fun d v H' rd c g dd => q d v H' rd c g dd⟩
  · rw [List.mem_singleton.mp hp]
    rfl
  · cases i with
    | zero => cases hi
    | succ i =>
      have hi : (ds.map some ++ List.replicate m none)[i]? = some (some d) := hi
      have z := start_ds (N := N.drop 1) dv m i d hi
      obtain ⟨v, hv, dd⟩ := z
      refine ⟨v, ?_, dd⟩
      unfold L2.start at hv ⊢
      rw [List.map_cons, List.cons_append, List.getElem?_cons_succ, List.length_cons]
      rw [List.length_drop] at hv
      rw [show N.length - (ws.length + 1) = N.length - 1 - ws.length by omega]
      exact hv
end
section
variable {X : Cx} {T : List (Addr × Str)} {δ : List (Option PyData)} {es : List Expr} {P : PyData → Prop} {x y : Str} {p py pos : Pos} {D C : Addr} {i k : Nat} {Pre : List PyData → Prop} {R : List PyData → PyData → Prop}
/-- f(source, ..) -/
theorem Je.callS {ds : List PyData} (ne : D ≠ C) (FD : FdS X.prog X.w X.K X.mg X.base T k x Pre R) (hr : Room k X.A) (ha : Da X T δ es ds) (hp : Pre ds) (im : ∀ d, R ds d → P d) (hi : X.N[i]? = some y := by rfl) (hv : Vis X.env.scope y := by first | exact Or.inl rfl | exact Or.inr (Or.inl rfl) | exact Or.inr (Or.inr rfl))
    (h1 : (y == ("__debug__" : Str)) = false := by decide) (h2 : (y == ("__classdict__" : Str)) = false := by decide) (hg : Gl X x := by rfl) (hdb : (x == ("__debug__" : Str)) = false := by decide)
    (he : starEach (.Name y py :: es) X.env = (false, eval (.Name y py) X.env) :: starEach es X.env := by rfl) (hpl : (backTo pos (starEach es X.env)).any (·.1) = false := by rfl) : Je X T (srcF D C i) δ (.Call (.Name x p) (.Name y py :: es) [] pos) P := fun σ H J pins s I => by
  obtain ⟨f, fd, ps, hm, hk, hb, FD⟩ := FD
  refine (pe_call FD hr hg hm hk hb .nil (pass0 (X := X)) (pa_cons (pe_var hi hv h1 h2) pa_ev he) hdb he hpl).run pins s σ H _ I ⟨.ref D, J.sl (i, .ref D) List.mem_cons_self, ?_⟩
  refine avT.mono (avT.frames (srcF_ok (i := i) ne).nd ((srcF_ok (i := i) ne).mv H J.c) (ha σ _ J.len J.ds J.t)) fun vs H1 ⟨⟨g1, dv⟩, bk⟩ => ?_
  show spS T X.K Pre R ((V.ref D :: vs) ++ []) H1 _ _
  rw [List.append_nil]
  exact ⟨D, C, vs, ds, rfl, ne, (srcF_ok (i := i) ne).st _ _ J.c bk, dv, g1.2, hp, fun d v H2 r c2 g2 d2 => ⟨c2, g1.trans g2, d, im d r, d2⟩⟩
end
end LB
end
section
set_option autoImplicit false
set_option Elab.async false
set_option linter.all false
set_option maxRecDepth 100000
set_option maxHeartbeats 4000000
/-! Walks: a number drawn. -/
namespace LB
open PySem PySem.Spec PySem.W PyProof.Rows L2 LamX
def PrePick (ds : List PyData) : Prop := ∃ m : Nat, ds = [.int (m : Nat)] ∧ 1 ≤ m ∧ m ≤ 1000
def RPick (ds : List PyData) (d : PyData) : Prop := ∀ m : Nat, ds = [.int (m : Nat)] → ∃ r : Nat, r < m ∧ d = .int (r : Nat)
theorem yesB {b : Bool} {p q : Prop} (e : b = true) (h : p) : (if b = true then p else q) := by rw [if_pos e]; exact h
theorem noB {b : Bool} {p q : Prop} (e : b = false) (h : q) : (if b = true then p else q) := by rw [e, if_neg (by decide)]; exact h
section
variable {P : Program} {w : World} {K : PySem.W.Frag} {mg : Str → Option Value} {base : Heap} {T : List (Addr × Str)} {f : Addr} {fd : FuncData}
abbrev sPick : Stmt := top 53
abbrev nPick : List Str := ["_law_source", "_law_many", "_law_cells", "_law_left", "_law_turn", "_law_mixed"]
theorem sc_pick : FnScope nPick ["_law_source", "_law_many"] (defScope sPick) := ⟨rfl, rfl, rfl, by decide +kernel, rfl, by decide +kernel, by decide +kernel⟩
theorem w_pick (F : Fun K "_law_pick" "_law_pick" sPick f fd) (hm : mg "_law_pick" = some (.ref f)) (hb : Binds K fd ["_law_source", "_law_many"] []) (G : Gb w mg K) : FdS P w K mg base T 1 "_law_pick" PrePick RPick := by
  refine ⟨f, fd, ["_law_source", "_law_many"], hm, F.kp, hb, F.ok sc_pick (fun vs H Q E ⟨D, C, ws, ds, e, _, _, dv, _, ⟨m, e2, _⟩, _⟩ => by rw [e, List.length_cons, dpAll_len dv, e2]; rfl) fun cdv A outer sh H vs Q E hr ⟨D, C, ws, ds, e, ne, hsrc, dvs, t, ⟨m, e2, m1, m2⟩, q⟩ => ?_⟩
  subst e e2
  obtain ⟨mv, rfl, dm⟩ := dp1 dvs
  cases dm
  have hfr := G.fr
  have hu : (A.deeper (envOfC "_law_pick" (defScope sPick) sh.heap.objs.size f cdv)).units + 1 < cLine := hu_of hr
  refine ⟨_, pss_cons (ps_if (pt_cmp (pc_lt (pv 1) pe_int)) (pss_one (ps_ret pe_int)) pss_nil)
    (pss_cons (ps_set (i := 2) sc_pick.nd rfl (Or.inl rfl) (pe_dget hu (pv 0) pe_str (fun _ _ => rfl)))
    (pss_cons (ps_while PassesOwn.never (pw_and (pt_cmp (pc_lt (pe_dget hu (pv 0) pe_str (fun _ _ => rfl)) pe_int)) (pw_and1 (pt_cmp (pc_gt (pe_callB call_len_seq (by rfl) (hfr _ (by decide)) boot_len (pa_cons (pv 2) pa_nil)) pe_int)))).pt
      (pss_one (ps_dput hu (pv 0) pe_str (pe_bm0 PySem.F.plainAttrs_list PySem.F.slot_list_pop PySem.F.type_list_pop mt_pop (pv 2)) rfl)))
    (pss_cons (ps_set (i := 3) sc_pick.nd rfl (Or.inl rfl) (pe_dget hu (pv 0) pe_str (fun _ _ => rfl)))
    (pss_cons (ps_if (pt_cmp (pc_gt (pv 3) pe_int)) (pss_cons (ps_dput hu (pv 0) pe_str (pe_op op_fdiv (pv 3) (pv 1)) rfl) (pss_one (ps_ret (pe_op op_mod (pe_callTy call_int1 (by rfl) (hfr _ (by decide)) boot_int (pa_cons (pv 3) pa_nil)) (pv 1))))) pss_nil)
    (pss_cons (ps_dput hu (pv 0) pe_str (pe_op op_add (pe_dget hu (pv 0) pe_str (fun _ _ => rfl)) pe_int) rfl)
    (pss_cons (ps_set (i := 4) sc_pick.nd rfl (Or.inl rfl) (pe_dget hu (pv 0) pe_str (fun _ _ => rfl)))
    (pss_cons (ps_set (i := 5) sc_pick.nd rfl (Or.inl rfl) (pe_op op_mod (pe_callTy call_int1 (by rfl) (hfr _ (by decide)) boot_int (pa_cons (pe_op op_add (pe_dget hu (pv 0) pe_str (fun _ _ => rfl)) (pe_op op_mul (pv 4) pe_int)) pa_nil)) pe_int))
    (pss_cons (ps_set (i := 5) sc_pick.nd rfl (Or.inl rfl) (pe_op op_mod (pe_callTy call_int1 (by rfl) (hfr _ (by decide)) boot_int (pa_cons (pe_op op_add (pe_op op_mul (pv 5) (pv 5)) (pe_op op_mul (pv 4) pe_int)) pa_nil)) pe_int))
    (pss_one (ps_ret (pe_op op_mod (pe_callTy call_int1 (by rfl) (hfr _ (by decide)) boot_int (pa_cons (pe_op op_fdiv (pv 5) pe_int) pa_nil)) (pv 1)))))))))))), ?_⟩
  have key : ∀ (H' : Hp) (z : Int), SrcC D C H' → hidL H' [D, C] = hidL H [D, C] → Q (.int (z % ((m : Nat) : Int))) H' := fun H' z hs hh => by
    have h1 : 0 ≤ z % ((m : Nat) : Int) := Int.emod_nonneg _ (by omega)
    have h2 : z % ((m : Nat) : Int) < m := Int.emod_lt_of_pos _ (by omega)
    refine q (.int ((z % ((m : Nat) : Int)).toNat : Nat)) _ H' (fun m' e => ⟨(z % ((m : Nat) : Int)).toNat, ?_, rfl⟩) hs (by rw [hh]; exact Gw.refl t) ?_
    · injection e with e
      injection e with e
      omega
    · rw [Int.toNat_of_nonneg h1]
      exact .int _
  obtain ⟨cells, l, mx, tn, hD, hC, hlen⟩ := hsrc
  refine ⟨_, rfl, ((m : Nat) : Int), 2, rfl, rfl, _, rfl, ?_⟩
  by_cases c2 : ((m : Nat) : Int) < 2
  · refine yesB (decide_eq_true c2) ?_
    have em : m = 1 := by omega
    have z := key H 0 ⟨cells, l, mx, tn, hD, hC, hlen⟩ rfl
    rw [Int.zero_emod] at z
    exact z
  · refine noB (decide_eq_false c2) ?_
    have gC : ∀ {H' : Hp} {l m t : Int}, H' D = some (.dK (srcKV C l m t)) → DGet H' D (.str "cells") (some (.ref C)) := fun h => by rw [← src_cells]; exact DGet.k (k := qC) h
    have gL : ∀ {H' : Hp} {l m t : Int}, H' D = some (.dK (srcKV C l m t)) → DGet H' D (.str "left") (some (.int l)) := fun h => by rw [← src_left]; exact DGet.k (k := qL) h
    have gM : ∀ {H' : Hp} {l m t : Int}, H' D = some (.dK (srcKV C l m t)) → DGet H' D (.str "mixed") (some (.int m)) := fun h => by rw [← src_mixed]; exact DGet.k (k := qM) h
    have gT : ∀ {H' : Hp} {l m t : Int}, H' D = some (.dK (srcKV C l m t)) → DGet H' D (.str "turn") (some (.int t)) := fun h => by rw [← src_turn]; exact DGet.k (k := qT) h
    have few : ∀ {l m t : Int}, (srcKV C l m t).length < sizeLine := by intro l m t; rw [sizeLine_eq]; show 4 < _; decide
    have pL : ∀ {H' : Hp} {l m t l' : Int}, H' D = some (.dK (srcKV C l m t)) → DPut H' D (.str "left") (.int l') (upd H' D (.dK (srcKV C l' m t))) := fun h => by rw [← src_putL]; exact DPut.k (k := qL) h few
    have pT : ∀ {H' : Hp} {l m t t' : Int}, H' D = some (.dK (srcKV C l m t)) → DPut H' D (.str "turn") (.int t') (upd H' D (.dK (srcKV C l m t'))) := fun h => by rw [← src_putT]; exact DPut.k (k := qT) h few
    have inD : D ∈ [D, C] := List.mem_cons_self
    have inC : C ∈ [D, C] := List.mem_cons_of_mem _ List.mem_cons_self
    refine ⟨_, rfl, D, _, rfl, gC hD, ?_⟩
    refine ⟨fun n σ H' => σ = [some (V.ref D), some (V.int (m : Nat)), some (V.ref C), none, none, none] ∧ ∃ (cells : List Int) (l mx tn : Int), cells.length = n ∧ cells.length ≤ 1000 ∧ H' D = some (.dK (srcKV C l mx tn)) ∧ H' C = some (.lst (cells.map V.int)) ∧ hidL H' [D, C] = hidL H [D, C],
      ⟨_, rfl, cells, l, mx, tn, rfl, hlen, hD, hC, rfl⟩, fun n σ H1 ⟨es, cells, l, mx, tn, en, hl1, hD1, hC1, hh⟩ => ?_⟩
    subst es
    refine ⟨_, rfl, D, _, rfl, gL hD1, l, 2, rfl, rfl, _, rfl, ?_⟩
    by_cases c3 : l < 2
    case' pos =>
      refine yesB (decide_eq_true c3) ?_
      refine ⟨_, rfl, C, cells.map V.int, rfl, .inl (SqL.of hC1), ((cells.map V.int).length : Nat), 0, rfl, rfl, _, rfl, ?_⟩
      by_cases c4 : 0 < cells.length
      case' pos =>
        refine yesB (decide_eq_true (by show (((cells.map V.int).length : Nat) : Int) > 0; rw [List.length_map]; omega)) ?_
        have lm : (cells.map V.int).length = cells.length := List.length_map ..
        have hlast : (cells.map V.int)[(cells.map V.int).length - 1]? = some (V.int (cells[cells.length - 1]'(by omega))) := by
          rw [lm, List.getElem?_map, List.getElem?_eq_getElem (by omega)]
          rfl
        refine ⟨fun σ' H' => ∃ n', n' < n ∧ (σ' = [some (V.ref D), some (V.int (m : Nat)), some (V.ref C), none, none, none] ∧ ∃ (cells : List Int) (l mx tn : Int), cells.length = n' ∧ cells.length ≤ 1000 ∧ H' D = some (.dK (srcKV C l mx tn)) ∧ H' C = some (.lst (cells.map V.int)) ∧ hidL H' [D, C] = hidL H [D, C]), fun σ' H' h => h, ?_⟩
        refine ⟨_, rfl, .inl ⟨rfl, _, SqL.of hC1⟩, C, _, _, rfl, rfl, hC1, hlast, ?_⟩
        have hD2 : upd H1 C (.lst (cells.map V.int).dropLast) D = some (.dK (srcKV C l mx tn)) := (upd_ne ne).trans hD1
        refine ⟨_, rfl, D, _, rfl, pL hD2, cells.length - 1, by omega, rfl, cells.dropLast, _, mx, tn, by rw [List.length_dropLast], by rw [List.length_dropLast]; omega, upd_same, ?_, ?_⟩
        · rw [upd_ne (Ne.symm ne), upd_same, List.map_dropLast]
        · rw [hidL_updIn inD, hidL_updIn inC, hh]
      case' neg => refine noB (decide_eq_false (by show ¬ (((cells.map V.int).length : Nat) : Int) > 0; rw [List.length_map]; omega)) ?_
    case' neg => refine noB (decide_eq_false c3) (noB rfl ?_)
    all_goals
      refine ⟨_, rfl, D, _, rfl, gL hD1, ?_⟩
      refine ⟨_, rfl, l, 1, rfl, rfl, _, rfl, ?_⟩
      by_cases c5 : l > 1
      · refine yesB (decide_eq_true c5) ?_
        refine ⟨_, rfl, _, rfl, l, ((m : Nat) : Int), rfl, rfl, ⟨by omega, by omega⟩, _, rfl, D, _, rfl, pL hD1, ?_⟩
        refine ⟨_, rfl, .inl ⟨l, rfl, _, rfl, l, ((m : Nat) : Int), rfl, rfl, (show (0 : Int) < m by omega), ?_⟩⟩
        exact key _ l ⟨cells, _, mx, tn, upd_same, (upd_ne (Ne.symm ne)).trans hC1, hl1⟩ (by rw [hidL_updIn inD, hh])
      · refine noB (decide_eq_false c5) ?_
        refine ⟨_, rfl, D, _, rfl, gT hD1, tn, 1, rfl, rfl, _, rfl, D, _, rfl, pT hD1, ?_⟩
        refine ⟨_, rfl, D, _, rfl, gT upd_same, ?_⟩
        refine ⟨_, rfl, D, _, rfl, gM upd_same, _, rfl, tn + 1, 104729, rfl, rfl, .inr ⟨by decide, by decide⟩, mx, _, rfl, rfl, .inl ⟨_, rfl, _, 998244353, rfl, rfl, (show (0 : Int) < 998244353 by decide), ?_⟩⟩
        have b1 : 0 ≤ (mx + (tn + 1) * 104729) % 998244353 := Int.emod_nonneg _ (by decide)
        have b2 : (mx + (tn + 1) * 104729) % 998244353 < 998244353 := Int.emod_lt_of_pos _ (by decide)
        refine ⟨_, rfl, _, rfl, _, _, rfl, rfl, .inl ⟨by omega, by omega⟩, _, rfl, tn + 1, 17, rfl, rfl, .inr ⟨by decide, by decide⟩, _, _, rfl, rfl, .inl ⟨_, rfl, _, 2147483647, rfl, rfl, (show (0 : Int) < 2147483647 by decide), ?_⟩⟩
        refine ⟨_, rfl, _, 16, rfl, rfl, ⟨by decide, by decide⟩, .inl ⟨_, rfl, _, rfl, _, ((m : Nat) : Int), rfl, rfl, (show (0 : Int) < m by omega), ?_⟩⟩
        exact key _ _ ⟨cells, l, mx, tn + 1, upd_same, (upd_ne (Ne.symm ne)).trans hC1, hl1⟩ (by rw [hidL_updIn inD, hh])
end
end LB
end
section
set_option autoImplicit false
set_option Elab.async false
set_option linter.all false
set_option maxRecDepth 100000
set_option maxHeartbeats 4000000
/-! Walks: the source is opened. -/
namespace LB
open PySem PySem.Spec PySem.W PyProof.Rows L2 LamX
section
variable {X : Cx} {T : List (Addr × Str)} {δ : List (Option PyData)} {a b e : Expr} {p pos : Pos} {i j : Int}
theorem De.mulR (ha : De X T δ a (.int i)) (hb : De X T δ b (.int j)) (h1 : -(2 ^ 64) < j := by decide) (h2 : j < 2 ^ 64 := by decide) : De X T δ (.BinOp a .Mult b pos) (.int (i * j)) :=
  De.of (pe_op op_mul pe_ev pe_ev) fun σ H Q hl hd t q => ha.go hl hd t fun x H1 g1 d1 => hb.go hl (hd.gw g1) g1.2 fun y H2 g2 d2 => by
    cases d1
    cases d2
    exact ⟨i, j, rfl, rfl, .inr ⟨h1, h2⟩, q _ _ (g1.trans g2) (.int _)⟩
theorem De.mod (ha : De X T δ a (.int i)) (hb : De X T δ b (.int j)) (h1 : 0 < j := by decide) : De X T δ (.BinOp a .Mod b pos) (.int (i % j)) :=
  De.of (pe_op op_mod pe_ev pe_ev) fun σ H Q hl hd t q => ha.go hl hd t fun x H1 g1 d1 => hb.go hl (hd.gw g1) g1.2 fun y H2 g2 d2 => by
    cases d1
    cases d2
    exact ⟨i, j, rfl, rfl, h1, q _ _ (g1.trans g2) (.int _)⟩
theorem De.intI (fr : Free X.mg) (h : De X T δ e (.int i)) (hg : Gl X "int" := by rfl) (he : starEach [e] X.env = (false, eval e X.env) :: starEach [] X.env := by rfl) : De X T δ (.Call (.Name "int" p) [e] [] pos) (.int i) :=
  De.ty call_int1 (fr _ (by decide)) boot_int (Da.cons h Da.nil he) (fun vs H Q dv t q => by
    obtain ⟨v, rfl, d1⟩ := dp1 dv
    cases d1
    exact .inl ⟨i, rfl, q _ _ (Gw.refl t) (.int _)⟩) hg (by decide) (by decide) he
theorem De.absI (fr : Free X.mg) (h : De X T δ e (.int i)) (hg : Gl X "abs" := by rfl) (he : starEach [e] X.env = (false, eval e X.env) :: starEach [] X.env := by rfl) : De X T δ (.Call (.Name "abs" p) [e] [] pos) (.int (if i < 0 then -i else i)) :=
  De.blt call_abs (fr _ (by decide)) (by rfl) (Da.cons h Da.nil he) (fun vs H Q dv t q => by
    obtain ⟨v, rfl, d1⟩ := dp1 dv
    cases d1
    exact ⟨i, rfl, q _ _ (Gw.refl t) (.int _)⟩) hg (by decide) (by decide) he
theorem De.min2 (fr : Free X.mg) (hc : X.calm = true) (ha : De X T δ a (.int i)) (hb : De X T δ b (.int j)) (hg : Gl X "min" := by rfl) (he : starEach [a, b] X.env = (false, eval a X.env) :: starEach [b] X.env := by rfl) (he2 : starEach [b] X.env = (false, eval b X.env) :: starEach [] X.env := by rfl) (hpl : (backTo pos (starEach [b] X.env)).any (·.1) = false := by rfl) :
    De X T δ (.Call (.Name "min" p) [a, b] [] pos) (.int (if j < i then j else i)) :=
  De.blt (call_min2 hc) (fr _ (by decide)) (by rfl) (Da.cons ha (Da.cons hb Da.nil he2) he) (fun vs H Q dv t q => by
    obtain ⟨v, w, rfl, d1, d2⟩ := dp2 dv
    cases d1
    cases d2
    exact ⟨i, j, rfl, q _ _ (Gw.refl t) (.int _)⟩) hg (by decide) (by decide) he hpl
end
theorem src_merge {C : Addr} {l m t : Int} : mergeK [] (srcKV C l m t) = srcKV C l m t := by
  have e1 : putK ([] : List (Key × V)) qC (.ref C) = [(qC, .ref C)] := putK_new _ valV_nil
  have e2 : putK [(qC, V.ref C)] qL (.int l) = [(qC, .ref C), (qL, .int l)] := putK_new _ ((valV_neg nCL).trans valV_nil)
  have e3 : putK [(qC, V.ref C), (qL, .int l)] qM (.int m) = [(qC, .ref C), (qL, .int l), (qM, .int m)] := putK_new _ ((valV_neg nCM).trans ((valV_neg nLM).trans valV_nil))
  have e4 : putK [(qC, V.ref C), (qL, .int l), (qM, .int m)] qT (.int t) = [(qC, .ref C), (qL, .int l), (qM, .int m), (qT, .int t)] := putK_new _ ((valV_neg nCT).trans ((valV_neg nLT).trans ((valV_neg nMT).trans valV_nil)))
  show putK (putK (putK (putK [] qC (.ref C)) qL (.int l)) qM (.int m)) qT (.int t) = _
  rw [e1, e2, e3, e4]
  rfl
/-- the promise: a source, new -/
def spOpen (T : List (Addr × Str)) (K : PySem.W.Frag) : Sp := fun vs H Q _ => ∃ (a : Addr) (ns : List Int), vs = [.ref a] ∧ SqL K H a (ns.map V.int) ∧ ns.length ≤ 1000 ∧ Tabs T H ∧ ∀ D C H', D ≠ C → SrcC D C H' → hidL H' [D, C] D = none → Gw T H (hidL H' [D, C]) → Q (.ref D) H'
section
variable {P : Program} {w : World} {K : PySem.W.Frag} {mg : Str → Option Value} {base : Heap} {T : List (Addr × Str)} {f : Addr} {fd : FuncData}
abbrev sOpen : Stmt := top 52
abbrev nOpen : List Str := ["_law_script", "_law_mixed", "_law_cell", "_law_cells"]
theorem sc_open : FnScope nOpen ["_law_script"] (defScope sOpen) := ⟨rfl, rfl, rfl, by decide +kernel, rfl, by decide +kernel, by decide +kernel⟩
theorem w_open (F : Fun K "_law_open_cells" "_law_open_cells" sOpen f fd) (G : Gb w mg K) : FnOk P w K mg base CX0 1 f fd ["_law_script"] (spOpen T K) := by
  refine F.ok sc_open (fun vs H Q E ⟨_, _, e, _⟩ => by rw [e]; rfl) fun cdv A outer sh H vs Q E hr ⟨a, ns, e, hs, few, t, q⟩ => ?_
  subst e
  have hfr := G.fr
  let X : Cx := (cxOf CX0 P w K mg base nOpen "_law_open_cells" (defScope sOpen) f cdv A outer sh H E).nox
  let δ0 : List (Option PyData) := [some (.list (ns.map .int)), none, none, none]
  have dS : Dp K H (.ref a) (.list (ns.map .int)) := .lst hs (ints_back ns)
  refine ⟨_, pss_cons ps_ev (pss_cons ps_ev (pss_cons ps_ev (pss_one (ps_ret (pe_disp (pps_cons pe_str (pe_revL (pv 3)) (pps_cons pe_str pe_int (pps_cons pe_str (pv 1) (pps_cons pe_str pe_int pps_nil)))) (by rfl) (by rfl) (fun z => by cases z) (by decide)))))), ?_⟩
  have ds0 : DS X.K H (L2.start nOpen [.ref a]) δ0 := fun i d h => by
    match i, h with
    | 0, h =>
      cases Option.some.inj (Option.some.inj h)
      exact ⟨_, rfl, dS⟩
    | 1, h => cases h
    | 2, h => cases h
    | 3, h => cases h
    | i + 4, h => cases h
  have J0 : Jst X T sa0 δ0 (L2.start nOpen [.ref a]) H := ⟨rfl, (fun p hp => by cases hp), True.intro, ds0, t⟩
  let δm : Int → List (Option PyData) := fun z => [some (.list (ns.map .int)), some (.int z), none, none]
  refine (Js1.set (Q := fun δ' => δ' = δm 11) (j := 1) (P := fun d' => d' = .int 11) sc_open.nd (Je.of sa0_ok De.int rfl) (fun d' e => by rw [e]; rfl) (fun z => nomatch z)) _ _ _ J0 fun δ1 σ1 H1 e1 J1 g1 => ?_
  subst e1
  refine (Js1.for_ (i := 2) (PL := fun L => L = ns.map .int) (Q := fun δ' => ∃ z, δ' = δm z) PassesOwn.never rfl sa0_ok (jsrc_l (Je.of sa0_ok (dv 0 (d := .list (ns.map .int))) ⟨_, rfl, rfl⟩)) (fun _ _ δ' => ∃ z, δ' = δm z) (fun _ _ => ⟨_, rfl⟩) (fun L eL k d δ1 hk ⟨z, e1⟩ => ?_) (fun L δ1 _ h => h) (fun z => nomatch z) (hg := pg_name sc_open.nd rfl (Or.inl rfl))) _ _ _ J1 fun δ2 σ2 H2 ⟨z, e2⟩ J2 g2 => ?_
  · subst eL e1
    rw [List.getElem?_map] at hk
    obtain ⟨n, _, rfl⟩ := Option.map_eq_some_iff.mp hk
    exact Js.weak (Js.setD (j := 1) sa0_ok sc_open.nd (De.mod (De.intI hfr (De.add (De.add (De.mulR (dv 1 (d := .int z)) De.int) (De.mulR (dv 2 (d := .int n)) De.int)) De.int)) De.int) (Js.nil rfl)) fun δ2 e2 => ⟨_, ⟨_, rfl⟩, by subst e2; exact Sub.tl (Sub.tl (Sub.no (Sub.tl Sub.ni)))⟩
  · subst e2
    let ab : List Int := ns.map fun i => if i < 0 then -i else i
    refine (Js1.ofS (j := 3) (P := fun δ' => δ' = (δm z).set 3 (some (.list (ab.map .int)))) sa0_ok (Ds.lcm (es := ab.map .int) rfl sc_open.nd (src_l (i := 2) (dv 0 (d := .list (ns.map .int))) (fun _ _ _ _ _ => pg_name sc_open.nd rfl (Or.inl rfl))) ?_ ?_ (fun j b e hb he s2 H2 C cl fp => ?_) (blkOk_by (N := nOpen) (sc := defScope sOpen) (own := [("_law_cell", 2)]) (by decide +kernel)) (sw_true rfl rfl rfl rfl)) (by show 3 < 4; decide) rfl (fun z => nomatch z)) _ _ _ J2 fun δ3 σ3 H3 e3 J3 g3 => ?_
    · rw [ones_len, List.length_map, List.length_map, List.length_map]
    · rw [ones_len, List.length_map]
      exact few
    · obtain ⟨d, hd, rfl⟩ := ones_at hb
      rw [List.getElem?_map] at hd
      obtain ⟨n, hn, rfl⟩ := Option.map_eq_some_iff.mp hd
      rw [List.getElem?_map, List.getElem?_map, hn] at he
      cases he
      exact De.absI hfr (dv 2 (d := .int n))
    · subst e3
      obtain ⟨v1, s1, d1⟩ := J3.ds 1 (.int z) rfl
      cases d1
      obtain ⟨v3, s3, d3⟩ := J3.ds 3 (.list (ab.map .int)) rfl
      cases d3 with
      | @lst b xs _ hq hv =>
        have ex := ints_of hv
        subst ex
        refine fun D hD => ⟨_, s3, b, _, rfl, SqL.gw hq ((Gw.refl J3.t).upd hD), fun C hC => ⟨_, s1, ?_⟩⟩
        have nCD : C ≠ D := fun z => by rw [z, upd_same] at hC; cases hC
        have hC3 : H3 C = none := by rw [upd_ne nCD] at hC; exact hC
        have hm1 : upd (upd H3 D (.dK [])) C (.lst (ab.map V.int).reverse) D = some (.dK []) := (upd_ne (Ne.symm nCD)).trans upd_same
        refine ⟨hm1, srcKV C 1 z 0, rfl, by show 4 ≤ 15; decide, ?_⟩
        rw [src_merge]
        have hh : hidL (upd (upd (upd H3 D (.dK [])) C (.lst (ab.map V.int).reverse)) D (.dK (srcKV C 1 z 0))) [D, C] = H3 := by
          rw [hidL_updIn List.mem_cons_self, hidL_updIn (List.mem_cons_of_mem _ List.mem_cons_self), hidL_updIn List.mem_cons_self]
          show hid (hid H3 C) D = H3
          rw [hid_none hC3, hid_none hD]
        refine q D C _ (Ne.symm nCD) ⟨ab.reverse, 1, z, 0, upd_same, ?_, ?_⟩ (by rw [hh]; exact hD) (by rw [hh]; exact (g1.trans g2).trans g3)
        · rw [upd_ne nCD, upd_same, List.map_reverse]
        · rw [List.length_reverse, List.length_map]
          exact few
end
end LB
end
section
set_option autoImplicit false
set_option Elab.async false
set_option linter.all false
set_option maxRecDepth 100000
set_option maxHeartbeats 4000000
/-! The sorts and values that are drawn. -/
namespace LB
open PySem PySem.W PyProof.Rows
def DV : Nat → S → PyData → Prop
  | _, .mark ls, d => T (.mark ls) d
  | _, .count, d => T .count d
  | m, .both a b, d => ∃ x y, d = .tuple [x, y] ∧ DV m a x ∧ DV m b y
  | m, .either a b, d => (∃ x, d = .tuple [.str sL, x] ∧ DV m a x) ∨ (∃ y, d = .tuple [.str sR, y] ∧ DV m b y)
  | m, .lane a, d => ∃ xs, d = .tuple xs ∧ xs.length ≤ m ∧ ∀ x ∈ xs, DV (min m 2) a x
  | m, .heap a, d => ∃ xs, d = .tuple xs ∧ xs.length ≤ m ∧ (∀ x ∈ xs, DV (min m 2) a x) ∧ xs.Pairwise (Le a)
def capB : Nat → S → Nat
  | _, .mark _ => 1
  | _, .count => 4
  | m, .both a b => capB m a * capB m b
  | m, .either a b => max (capB m a) (capB m b)
  | m, .lane a => (1 + capB (min m 2) a) ^ m
  | m, .heap a => (1 + capB (min m 2) a) ^ m
theorem DV.t : ∀ (s : S) (m : Nat) (d : PyData), m ≤ 3 → DV m s d → T s d
  | .mark ls, m, d, _, h => h
  | .count, m, d, _, h => h
  | .both a b, m, d, hm, h => by
    obtain ⟨x, y, rfl, h1, h2⟩ := h
    exact ⟨x, y, rfl, DV.t a m x hm h1, DV.t b m y hm h2⟩
  | .either a b, m, d, hm, h => by
    rcases h with ⟨x, rfl, h⟩ | ⟨x, rfl, h⟩
    · exact .inl ⟨x, rfl, DV.t a m x hm h⟩
    · exact .inr ⟨x, rfl, DV.t b m x hm h⟩
  | .lane a, m, d, hm, h => by
    obtain ⟨xs, rfl, l, h⟩ := h
    exact ⟨xs, rfl, by omega, fun x hx => DV.t a (min m 2) x (by omega) (h x hx)⟩
  | .heap a, m, d, hm, h => by
    obtain ⟨xs, rfl, l, h, q⟩ := h
    exact ⟨xs, rfl, by omega, fun x hx => DV.t a (min m 2) x (by omega) (h x hx), q⟩
theorem prod_pow {f : PyData → Nat} {c : Nat} : ∀ (xs : List PyData) (m : Nat), xs.length ≤ m → (∀ x ∈ xs, f x ≤ c) → prod (xs.map fun x => 1 + f x) ≤ (1 + c) ^ m
  | [], m, _, _ => Nat.pow_pos (by omega)
  | x :: xs, 0, l, _ => by simp at l
  | x :: xs, m + 1, l, h => by
    rw [List.map_cons, prod, Nat.pow_succ, Nat.mul_comm]
    exact Nat.mul_le_mul (prod_pow xs m (by simpa using l) fun z hz => h z (List.mem_cons_of_mem _ hz)) (by have := h x List.mem_cons_self; omega)
theorem DV.cap : ∀ (s : S) (m : Nat) (d : PyData), DV m s d → LB.cap s d ≤ capB m s
  | .mark ls, m, d, h => Nat.le_refl _
  | .count, m, d, h => by
    obtain ⟨n, hn, rfl⟩ := h
    show ((n : Int)).toNat + 1 ≤ 4
    omega
  | .both a b, m, d, h => by
    obtain ⟨x, y, rfl, h1, h2⟩ := h
    exact Nat.mul_le_mul (DV.cap a m x h1) (DV.cap b m y h2)
  | .either a b, m, d, h => by
    rcases h with ⟨x, rfl, h⟩ | ⟨x, rfl, h⟩
    · simp only [LB.cap, if_pos, capB]
      exact Nat.le_trans (DV.cap a m x h) (Nat.le_max_left _ _)
    · simp only [LB.cap, if_neg nRL, capB]
      exact Nat.le_trans (DV.cap b m x h) (Nat.le_max_right _ _)
  | .lane a, m, d, h => by
    obtain ⟨xs, rfl, l, h⟩ := h
    exact prod_pow xs m l fun x hx => DV.cap a (min m 2) x (h x hx)
  | .heap a, m, d, h => by
    obtain ⟨xs, rfl, l, h, _⟩ := h
    exact prod_pow xs m l fun x hx => DV.cap a (min m 2) x (h x hx)
/-! ### the sorts -/
def wfB : S → Bool
  | .mark ls => decide (1 ≤ ls.length) && decide (ls.length ≤ 3) && decide ls.Nodup && ls.all wordB
  | .count => true
  | .both a b => wfB a && wfB b
  | .either a b => wfB a && wfB b
  | .lane a => wfB a
  | .heap a => wfB a
theorem wfB_ok : ∀ s : S, wfB s = true → Wf s ∧ Ok s
  | .mark ls, h => by
    unfold wfB at h
    simp only [Bool.and_eq_true, decide_eq_true_eq, List.all_eq_true] at h
    obtain ⟨⟨⟨h1, h2⟩, h3⟩, h4⟩ := h
    exact ⟨⟨h1, h2, h3, h4⟩, h3, fun z => by rw [z] at h1; simp at h1⟩
  | .count, _ => ⟨True.intro, True.intro⟩
  | .both a b, h => by
    rw [wfB, Bool.and_eq_true] at h
    exact ⟨⟨(wfB_ok a h.1).1, (wfB_ok b h.2).1⟩, (wfB_ok a h.1).2, (wfB_ok b h.2).2⟩
  | .either a b, h => by
    rw [wfB, Bool.and_eq_true] at h
    exact ⟨⟨(wfB_ok a h.1).1, (wfB_ok b h.2).1⟩, (wfB_ok a h.1).2, (wfB_ok b h.2).2⟩
  | .lane a, h => wfB_ok a h
  | .heap a, h => wfB_ok a h
def goodB (s : S) : Bool := wfB s && decide (dep s ≤ 5) && decide ((subsS s).length ≤ 11) && decide ((((subsS s).map S.enc).filterMap gRow).length ≤ 4) && (subsS s).all (fun p => decide (cmpS p ≤ 27)) && decide (capB 3 s ≤ 125)
structure SG (s : S) : Prop where
  good : Good s
  ok : Ok s
  cap : capB 3 s ≤ 125
theorem goodB_ok {s : S} (h : goodB s = true) : SG s := by
  unfold goodB at h
  simp only [Bool.and_eq_true, decide_eq_true_eq, List.all_eq_true] at h
  obtain ⟨⟨⟨⟨⟨h1, h2⟩, h3⟩, h4⟩, h5⟩, h6⟩ := h
  exact ⟨⟨(wfB_ok s h1).1, h2, h3, h4, h5⟩, (wfB_ok s h1).2, h6⟩
def l5 : List (List Str) := [["a", "b"], ["b", "a"], ["x", "y"], ["a", "b", "c"], ["left"]]
def l9 (m : S) : List S := [.count, m, .lane m, .lane m, .heap m, .heap m, .both m .count, .lane .count, .both .count .count]
def l3 (m : S) : List S := [.heap (.both m .count), .lane (.both m .count), .both (.lane m) .count]
def l5b (m : S) : List S := [.either .count (.lane m), .lane (.heap m), .both (.lane m) (.heap m), .heap (.lane m), .heap .count]
def l3b (m : S) : List S := [.either m (.heap m), .both (.lane m) (.lane m), .heap (.either m .count)]
def l1 (m : S) : List S := [.both m m]
def l21 (m : S) : List S := l9 m ++ l3 m ++ l5b m ++ l3b m ++ l1 m
theorem l21_good : (l5.all fun ls => (l21 (.mark ls)).all goodB) = true := by decide +kernel
theorem l21_ok {ls : List Str} {s : S} (h : ls ∈ l5) (hs : s ∈ l21 (.mark ls)) : SG s := goodB_ok (List.all_eq_true.mp (List.all_eq_true.mp l21_good ls h) s hs)
theorem l21_len (m : S) : (l21 m).length = 21 := rfl
theorem l5_len : l5.length = 5 := rfl
end LB
end
section
set_option autoImplicit false
set_option Elab.async false
set_option linter.all false
set_option maxRecDepth 100000
set_option maxHeartbeats 4000000
/-! Walks: sorts and values drawn. -/
namespace LB
open PySem PySem.Spec PySem.W PyProof.Rows L2 LamX
section
variable {X : Cx} {T : List (Addr × Str)} {F : Sa} {δ : List (Option PyData)} {a b e : Expr} {es : List Expr} {d : PyData} {ds : List PyData} {P : PyData → Prop} {p pos : Pos} {x y z : Str}
theorem Je.ixT (ok : SaOk F) (ha : De X T δ a (.tuple ds)) (hb : Je X T F δ b (fun d => ∃ k : Nat, d = .int (k : Nat) ∧ k < ds.length)) (q : ∀ (k : Nat) d, ds[k]? = some d → P d) (hs : PlainIx b := by intro _ _; rfl) : Je X T F δ (.Subscript a b pos) P := fun σ H J pins s I => by
  refine (pe_ix (X := X) ix_tup pe_ev pe_ev hs).run pins s σ H _ I (evT.mono (Je.of ok ha rfl σ H J) fun v H1 ⟨c1, g1, d1, e1, dv⟩ => evT.mono (hb σ H1 (J.gw c1 g1)) fun u H2 ⟨c2, g2, d2, ⟨k, e2, hk⟩, du⟩ => ?_)
  subst e1 e2
  cases du
  cases Dp.gw g2 _ _ dv with
  | @tup ad xs _ hq hv =>
    obtain ⟨w, e, dw⟩ := dpAll_get hv (List.getElem?_eq_getElem hk)
    exact ⟨_, _, _, w, rfl, rfl, SqT.sub hq fun b o z => hidL_sub z, atI_nat e, c2, g1.trans g2, _, q k _ (List.getElem?_eq_getElem hk), dw⟩
theorem Je.ixL (ok : SaOk F) (ha : De X T δ a (.list ds)) (hb : Je X T F δ b (fun d => ∃ k : Nat, d = .int (k : Nat) ∧ k < ds.length)) (q : ∀ (k : Nat) d, ds[k]? = some d → P d) (hs : PlainIx b := by intro _ _; rfl) : Je X T F δ (.Subscript a b pos) P := fun σ H J pins s I => by
  refine (pe_ix (X := X) ix_list pe_ev pe_ev hs).run pins s σ H _ I (evT.mono (Je.of ok ha rfl σ H J) fun v H1 ⟨c1, g1, d1, e1, dv⟩ => evT.mono (hb σ H1 (J.gw c1 g1)) fun u H2 ⟨c2, g2, d2, ⟨k, e2, hk⟩, du⟩ => ?_)
  subst e1 e2
  cases du
  cases Dp.gw g2 _ _ dv with
  | @lst ad xs _ hq hv =>
    obtain ⟨w, e, dw⟩ := dpAll_get hv (List.getElem?_eq_getElem hk)
    exact ⟨_, _, _, w, rfl, rfl, SqL.sub hq fun b o z => hidL_sub z, atI_nat e, c2, g1.trans g2, _, q k _ (List.getElem?_eq_getElem hk), dw⟩
theorem Je.tup {x1 : Nat} {PL : List PyData → Prop} (ok : SaOk F) (h : Ja X T F δ es PL) (few : ∀ l, PL l → l.length ≤ 1000) (q : ∀ l, PL l → P (.tuple l)) : Je X T F δ (.Tuple es x1 pos) P := fun σ H J pins s I => by
  refine (pe_tupN (X := X) pa_ev).run pins s σ H _ I (avT.mono (h σ H J) fun vs H1 ⟨c1, g1, l, pl, dv⟩ => ⟨few_line dv (few l pl), fun r o hr nd => ?_⟩)
  have nr : r ∉ F.as := fun z => by
    obtain ⟨o, ho, _⟩ := ok.mv H1 c1 r z
    rw [hr] at ho
    cases ho
  have hr2 : hidL H1 F.as r = none := by rw [hidL_out nr, hr]
  have z := lay_tup hr2 nd dv g1.2
  rw [← hidL_upd nr] at z
  exact ⟨ok.st _ _ c1 fun b hb => upd_ne fun z => nr (by rw [← z]; exact hb), g1.trans z.1, .tuple l, q l pl, z.2⟩
/-- x, y, z = a, b, c -/
theorem Js1.par3 {c : Expr} {i j l : Nat} {px py pz pt pt2 : Pos} {kt k2 : Nat} {d1 d2 d3 : PyData} {Q : List (Option PyData) → Prop} (ok : SaOk F) (hc : X.calm = true) (hN : X.N.Nodup) (h : Da X T δ [a, b, c] [d1, d2, d3]) (q : Q (((δ.set i (some d1)).set j (some d2)).set l (some d3)))
    (hij : i ≠ j := by decide) (hil : i ≠ l := by decide) (hjl : j ≠ l := by decide) (n1 : i ∉ F.sl.map (·.1) := by decide) (n2 : j ∉ F.sl.map (·.1) := by decide) (n3 : l ∉ F.sl.map (·.1) := by decide) (hi : X.N[i]? = some x := by rfl) (hj : X.N[j]? = some y := by rfl) (hl : X.N[l]? = some z := by rfl)
    (hx : X.env.scope.names.lookup x = some .local := by rfl) (hy : X.env.scope.names.lookup y = some .local := by rfl) (hz : X.env.scope.names.lookup z = some .local := by rfl)
    (hw : swappedStores [.Tuple [.Name x px, .Name y py, .Name z pz] kt pt] (.Tuple [a, b, c] k2 pt2) X.env = pure (some [x, y, z]) := by rfl)
    (hs : swapsWithSole [.Tuple [.Name x px, .Name y py, .Name z pz] kt pt] (.Tuple [a, b, c] k2 pt2) pos.line X.env = pure false := by rfl) :
    Js1 X T F δ (.Assign [.Tuple [.Name x px, .Name y py, .Name z pz] kt pt] (.Tuple [a, b, c] k2 pt2) pos) Q := fun σ H E J k pins s I => by
  refine (ps_par3 hc hN hi hj hl hij hil hjl hx hy hz pa_ev hw hs).run pins s σ H E I (avT.mono (Ja.of ok h rfl σ H J) fun vs H1 ⟨c1, g1, ds, e, dv⟩ => ?_)
  subst e
  cases dv with
  | cons a1 t1 =>
    cases t1 with
    | cons a2 t2 =>
      cases t2 with
      | cons a3 t3 =>
        cases t3
        have J1 := (J.gw c1 g1).put (j := i) (lt_of_ix hi J.len) n1 a1
        have J2 := J1.put (j := j) (lt_of_ix hj J1.len) n2 a2
        have J3 := J2.put (j := l) (lt_of_ix hl J2.len) n3 a3
        exact ⟨_, _, _, rfl, k _ _ _ q J3 g1⟩
end
section
variable {X : Cx} {T : List (Addr × Str)} {δ : List (Option PyData)} {a b : Expr} {s1 s2 : S} {j x1 : Nat} {p3 pos : Pos}
theorem De.sBoth (ha : De X T δ a s1.enc) (hb : De X T δ b s2.enc) (he : starEach [Expr.Constant (.str "both") j p3, a, b] X.env = (false, eval (.Constant (.str "both") j p3) X.env) :: starEach [a, b] X.env := by rfl) (he2 : starEach [a, b] X.env = (false, eval a X.env) :: starEach [b] X.env := by rfl) (he3 : starEach [b] X.env = (false, eval b X.env) :: starEach [] X.env := by rfl) :
    De X T δ (.Tuple [.Constant (.str "both") j p3, a, b] x1 pos) (S.both s1 s2).enc := De.tup (Da.cons De.str (Da.cons ha (Da.cons hb Da.nil he3) he2) he) (by show 3 ≤ 1000; decide)
theorem De.sEither (ha : De X T δ a s1.enc) (hb : De X T δ b s2.enc) (he : starEach [Expr.Constant (.str "either") j p3, a, b] X.env = (false, eval (.Constant (.str "either") j p3) X.env) :: starEach [a, b] X.env := by rfl) (he2 : starEach [a, b] X.env = (false, eval a X.env) :: starEach [b] X.env := by rfl) (he3 : starEach [b] X.env = (false, eval b X.env) :: starEach [] X.env := by rfl) :
    De X T δ (.Tuple [.Constant (.str "either") j p3, a, b] x1 pos) (S.either s1 s2).enc := De.tup (Da.cons De.str (Da.cons ha (Da.cons hb Da.nil he3) he2) he) (by show 3 ≤ 1000; decide)
theorem De.sLane (ha : De X T δ a s1.enc) (he : starEach [Expr.Constant (.str "lane") j p3, a] X.env = (false, eval (.Constant (.str "lane") j p3) X.env) :: starEach [a] X.env := by rfl) (he2 : starEach [a] X.env = (false, eval a X.env) :: starEach [] X.env := by rfl) :
    De X T δ (.Tuple [.Constant (.str "lane") j p3, a] x1 pos) (S.lane s1).enc := De.tup (Da.cons De.str (Da.cons ha Da.nil he2) he) (by show 2 ≤ 1000; decide)
theorem De.sHeap (ha : De X T δ a s1.enc) (he : starEach [Expr.Constant (.str "heap") j p3, a] X.env = (false, eval (.Constant (.str "heap") j p3) X.env) :: starEach [a] X.env := by rfl) (he2 : starEach [a] X.env = (false, eval a X.env) :: starEach [] X.env := by rfl) :
    De X T δ (.Tuple [.Constant (.str "heap") j p3, a] x1 pos) (S.heap s1).enc := De.tup (Da.cons De.str (Da.cons ha Da.nil he2) he) (by show 2 ≤ 1000; decide)
theorem De.sCount (he : starEach [Expr.Constant (.str "count") j p3] X.env = (false, eval (.Constant (.str "count") j p3) X.env) :: starEach [] X.env := by rfl) :
    De X T δ (.Tuple [.Constant (.str "count") j p3] x1 pos) S.count.enc := De.tup (Da.cons De.str Da.nil he) (by show 1 ≤ 1000; decide)
end
def notStar : Expr → Bool
  | .Starred _ _ => false
  | _ => true
theorem star_plain {e : Expr} {es : List Expr} {env : Env} (h : notStar e = true) : starEach (e :: es) env = (false, eval e env) :: starEach es env := by
  rw [starEach]
  intro a p z
  subst z
  cases h
/-- a long display, by places -/
theorem Da.all {X : Cx} {T : List (Addr × Str)} {δ : List (Option PyData)} : ∀ {es : List Expr} {ds : List PyData}, es.all notStar = true → es.length = ds.length → (∀ (k : Nat) e d, es[k]? = some e → ds[k]? = some d → De X T δ e d) → Da X T δ es ds
  | [], [], _, _, _ => Da.nil
  | [], _ :: _, _, l, _ => by cases l
  | _ :: _, [], _, l, _ => by cases l
  | e :: es, d :: ds, n, l, h => by
    rw [List.all_cons, Bool.and_eq_true] at n
    exact Da.cons (h 0 e d rfl rfl) (Da.all n.2 (by simpa using l) fun k e' d' h1 h2 => h (k + 1) e' d' (by simpa using h1) (by simpa using h2)) (star_plain n.1)
theorem De.lstA {X : Cx} {T : List (Addr × Str)} {δ : List (Option PyData)} {es : List Expr} {ds : List PyData} {pos : Pos} (n : es.all notStar = true) (l : es.length = ds.length) (few : ds.length ≤ 1000) (h : ∀ (k : Nat) e d, es[k]? = some e → ds[k]? = some d → De X T δ e d) : De X T δ (.List es pos) (.list ds) := De.lst (Da.all n l h) few
/-- ("mark", [..][k]), the parts told apart -/
theorem Je.markE {X : Cx} {T : List (Addr × Str)} {F : Sa} {δ : List (Option PyData)} {kE cE : Expr} {es : List Expr} {x1 : Nat} {p1 p2 p3 : Pos} (ls5 : List (List Str)) (ok : SaOk F) (hk : De X T δ kE (.str kMark)) (n : es.all notStar = true) (l : es.length = ls5.length) (few : ls5.length ≤ 1000) (h : ∀ (k : Nat) e ls, es[k]? = some e → ls5[k]? = some ls → De X T δ e (.tuple (ls.map .str)))
    (hc : Je X T F δ cE (fun d => ∃ k : Nat, d = .int (k : Nat) ∧ k < ls5.length)) (nk : notStar kE = true) (hs : PlainIx cE) : Je X T F δ (.Tuple [kE, .Subscript (.List es p1) cE p2] x1 p3) (fun d => ∃ ls, ls ∈ ls5 ∧ d = (S.mark ls).enc) := by
  have hl : De X T δ (.List es p1) (.list (ls5.map fun ls => .tuple (ls.map .str))) := De.lstA n (by rw [List.length_map]; exact l) (by rw [List.length_map]; exact few) fun k e d h1 h2 => by
    rw [List.getElem?_map] at h2
    obtain ⟨ls, h3, rfl⟩ := Option.map_eq_some_iff.mp h2
    exact h k e ls h1 h3
  have hi : Je X T F δ (.Subscript (.List es p1) cE p2) (fun d => ∃ ls, ls ∈ ls5 ∧ d = .tuple (ls.map .str)) := Je.ixL ok hl (hc.mono fun d ⟨k, e, hk⟩ => ⟨k, e, by rw [List.length_map]; exact hk⟩) (fun k d hd => by
    rw [List.getElem?_map] at hd
    obtain ⟨ls, h3, rfl⟩ := Option.map_eq_some_iff.mp hd
    exact ⟨ls, List.mem_of_getElem? h3, rfl⟩) hs
  exact Je.tup (PL := fun l => ∃ ls, ls ∈ ls5 ∧ l = [.str kMark, .tuple (ls.map .str)]) ok (Ja.cons (P1 := fun d => d = .str kMark) (P2 := fun l => ∃ ls, ls ∈ ls5 ∧ l = [.tuple (ls.map .str)]) (Je.of ok hk rfl)
    (Ja.cons (P1 := fun d => ∃ ls, ls ∈ ls5 ∧ d = .tuple (ls.map .str)) (P2 := fun l => l = []) hi (Ja.nil rfl) (fun d l ⟨ls, h1, h2⟩ e => ⟨ls, h1, by rw [h2, e]⟩) (star_plain rfl)) (fun d l e ⟨ls, h1, h2⟩ => ⟨ls, h1, by rw [e, h2]⟩) (star_plain nk)) (fun l ⟨ls, _, e⟩ => by rw [e]; show 2 ≤ 1000; decide) fun l ⟨ls, h1, e⟩ => ⟨ls, h1, by rw [e]; rfl⟩
theorem notin_src {D C : Addr} {j : Nat} (h : j ≠ 0) : j ∉ (srcF D C 0).sl.map (·.1) := fun z => h (List.mem_singleton.mp z)
section
variable {P : Program} {w : World} {K : PySem.W.Frag} {mg : Str → Option Value} {base : Heap} {T : List (Addr × Str)} {f : Addr} {fd : FuncData}
theorem pick_of {m : Nat} {d : PyData} (r : RPick [.int (m : Nat)] d) : ∃ k : Nat, d = .int (k : Nat) ∧ k < m := by
  obtain ⟨k, h1, h2⟩ := r m rfl
  exact ⟨k, h2, h1⟩
abbrev sDS : Stmt := top 57
abbrev nDS : List Str := ["_law_source", "_law_mark", "_law_count", "_law_lane", "_law_heap", "_law_some"]
theorem sc_ds : FnScope nDS ["_law_source"] (defScope sDS) := ⟨rfl, rfl, rfl, by decide +kernel, rfl, by decide +kernel, by decide +kernel⟩
def RDS (ds : List PyData) (d : PyData) : Prop := ∃ s : S, SG s ∧ d = s.enc
theorem w_ds (F : Fun K "_law_draw_sort" "_law_draw_sort" sDS f fd) (hm : mg "_law_draw_sort" = some (.ref f)) (hb : Binds K fd ["_law_source"] []) (G : Gb w mg K) (FP : FdS P w K mg base T 1 "_law_pick" PrePick RPick) : FdS P w K mg base T 2 "_law_draw_sort" (fun ds => ds = []) RDS := by
  refine FdS.mk (m := 5) F hm hb sc_ds (fun ds e => by rw [e]; rfl) fun cdv A outer sh H E ds D C ne hr e1 => ?_
  subst e1
  have ok := srcF_ok (D := D) (C := C) (i := 0) ne
  have ns : ∀ {j : Nat}, j ≠ 0 → j ∉ (srcF D C 0).sl.map (·.1) := notin_src
  let δm : S → List (Option PyData) := fun m => [none, some m.enc, none, none, none, none]
  refine @Jr.next _ _ _ _ _ _ _ (fun δ1 => ∃ ls, ls ∈ l5 ∧ δ1 = δm (.mark ls)) ?st ?rest
  case st =>
    refine @Js1.set _ _ _ _ _ (fun d => ∃ ls, ls ∈ l5 ∧ d = (S.mark ls).enc) 1 _ _ _ _ sc_ds.nd ?je (fun d ⟨ls, h1, e⟩ => ⟨ls, h1, by rw [e]; rfl⟩) (ns (by decide)) rfl (.inl rfl) rfl (.inr rfl)
    refine @Je.markE _ _ _ _ _ _ _ _ _ _ _ l5 ok De.str rfl rfl (by decide) ?el ?call rfl (by intro _ _; rfl)
    case call => exact Je.callS (i := 0) (ds := [.int (5 : Nat)]) ne FP (hr.mono (by omega)) (Da.cons De.int Da.nil) ⟨5, rfl, by decide, by decide⟩ fun d r => pick_of r
    case el =>
      intro k e ls h1 h2
      match k, h1, h2 with
      | 0, h1, h2 => cases h1; cases h2; exact De.tup (Da.cons De.str (Da.cons De.str Da.nil)) (by show 2 ≤ 1000; decide)
      | 1, h1, h2 => cases h1; cases h2; exact De.tup (Da.cons De.str (Da.cons De.str Da.nil)) (by show 2 ≤ 1000; decide)
      | 2, h1, h2 => cases h1; cases h2; exact De.tup (Da.cons De.str (Da.cons De.str Da.nil)) (by show 2 ≤ 1000; decide)
      | 3, h1, h2 => cases h1; cases h2; exact De.tup (Da.cons De.str (Da.cons De.str (Da.cons De.str Da.nil))) (by show 3 ≤ 1000; decide)
      | 4, h1, h2 => cases h1; cases h2; exact De.tup (Da.cons De.str Da.nil) (by show 1 ≤ 1000; decide)
      | k + 5, h1, h2 => cases h1
  case rest =>
    intro δ1 ⟨ls, h1, e⟩
    subst e
    generalize hmk : S.mark ls = m
    have hg : ∀ s ∈ l21 m, SG s := fun s hs => l21_ok h1 (by rw [hmk]; exact hs)
    let δ4 : List S → List (Option PyData) := fun l => [none, some m.enc, some S.count.enc, some (S.lane m).enc, some (S.heap m).enc, some (.list (l.map S.enc))]
    refine Jr.next (Q := fun δ1 => δ1 = [none, some m.enc, some S.count.enc, some (S.lane m).enc, some (S.heap m).enc, none]) (Js1.par3 (i := 2) (j := 3) (l := 4) (d1 := S.count.enc) (d2 := (S.lane m).enc) (d3 := (S.heap m).enc) ok rfl sc_ds.nd (Da.cons De.sCount (Da.cons (De.sLane (dv 1 (d := m.enc))) (Da.cons (De.sHeap (dv 1 (d := m.enc))) Da.nil))) rfl (n1 := ns (by decide)) (n2 := ns (by decide)) (n3 := ns (by decide))) fun δ1 e => ?_
    subst e
    refine Jr.setD (j := 5) (d := .list ((l9 m).map S.enc)) ok sc_ds.nd (De.lstA rfl rfl (by show 9 ≤ 1000; decide) fun k e d h1 h2 => ?e9) ?r1 (ns (by decide))
    case e9 =>
      match k, h1, h2 with
      | 0, h1, h2 => cases h1; cases h2; exact dv 2 (d := S.count.enc)
      | 1, h1, h2 => cases h1; cases h2; exact dv 1 (d := m.enc)
      | 2, h1, h2 => cases h1; cases h2; exact dv 3 (d := (S.lane m).enc)
      | 3, h1, h2 => cases h1; cases h2; exact dv 3 (d := (S.lane m).enc)
      | 4, h1, h2 => cases h1; cases h2; exact dv 4 (d := (S.heap m).enc)
      | 5, h1, h2 => cases h1; cases h2; exact dv 4 (d := (S.heap m).enc)
      | 6, h1, h2 => cases h1; cases h2; exact De.sBoth (dv 1 (d := m.enc)) (dv 2 (d := S.count.enc))
      | 7, h1, h2 => cases h1; cases h2; exact De.sLane (dv 2 (d := S.count.enc))
      | 8, h1, h2 => cases h1; cases h2; exact De.sBoth (dv 2 (d := S.count.enc)) (dv 2 (d := S.count.enc))
      | k + 9, h1, h2 => cases h1
    show Jr _ T _ (δ4 (l9 m)) _ _
    refine Jr.setD (j := 5) (d := .list ((l9 m ++ l3 m).map S.enc)) ok sc_ds.nd (De.cast (De.catL (dv 5 (d := .list ((l9 m).map S.enc))) (De.lstA (ds := (l3 m).map S.enc) rfl rfl (by show 3 ≤ 1000; decide) fun k e d h1 h2 => ?e1) (by rw [List.length_map, List.length_map]; exact Nat.le_of_ble_eq_true rfl)) (by rw [← List.map_append])) ?r2 (ns (by decide))
    case e1 =>
      match k, h1, h2 with
      | 0, h1, h2 => cases h1; cases h2; exact De.sHeap (De.sBoth (dv 1 (d := m.enc)) (dv 2 (d := S.count.enc)))
      | 1, h1, h2 => cases h1; cases h2; exact De.sLane (De.sBoth (dv 1 (d := m.enc)) (dv 2 (d := S.count.enc)))
      | 2, h1, h2 => cases h1; cases h2; exact De.sBoth (dv 3 (d := (S.lane m).enc)) (dv 2 (d := S.count.enc))
      | k + 3, h1, h2 => cases h1
    show Jr _ T _ (δ4 (l9 m ++ l3 m)) _ _
    refine Jr.setD (j := 5) (d := .list ((l9 m ++ l3 m ++ l5b m).map S.enc)) ok sc_ds.nd (De.cast (De.catL (dv 5 (d := .list ((l9 m ++ l3 m).map S.enc))) (De.lstA (ds := (l5b m).map S.enc) rfl rfl (by show 5 ≤ 1000; decide) fun k e d h1 h2 => ?e2) (by rw [List.length_map, List.length_map]; exact Nat.le_of_ble_eq_true rfl)) (by rw [← List.map_append])) ?r3 (ns (by decide))
    case e2 =>
      match k, h1, h2 with
      | 0, h1, h2 => cases h1; cases h2; exact De.sEither (dv 2 (d := S.count.enc)) (dv 3 (d := (S.lane m).enc))
      | 1, h1, h2 => cases h1; cases h2; exact De.sLane (dv 4 (d := (S.heap m).enc))
      | 2, h1, h2 => cases h1; cases h2; exact De.sBoth (dv 3 (d := (S.lane m).enc)) (dv 4 (d := (S.heap m).enc))
      | 3, h1, h2 => cases h1; cases h2; exact De.sHeap (dv 3 (d := (S.lane m).enc))
      | 4, h1, h2 => cases h1; cases h2; exact De.sHeap (dv 2 (d := S.count.enc))
      | k + 5, h1, h2 => cases h1
    show Jr _ T _ (δ4 (l9 m ++ l3 m ++ l5b m)) _ _
    refine Jr.setD (j := 5) (d := .list ((l9 m ++ l3 m ++ l5b m ++ l3b m).map S.enc)) ok sc_ds.nd (De.cast (De.catL (dv 5 (d := .list ((l9 m ++ l3 m ++ l5b m).map S.enc))) (De.lstA (ds := (l3b m).map S.enc) rfl rfl (by show 3 ≤ 1000; decide) fun k e d h1 h2 => ?e3) (by rw [List.length_map, List.length_map]; exact Nat.le_of_ble_eq_true rfl)) (by rw [← List.map_append])) ?r4 (ns (by decide))
    case e3 =>
      match k, h1, h2 with
      | 0, h1, h2 => cases h1; cases h2; exact De.sEither (dv 1 (d := m.enc)) (dv 4 (d := (S.heap m).enc))
      | 1, h1, h2 => cases h1; cases h2; exact De.sBoth (dv 3 (d := (S.lane m).enc)) (dv 3 (d := (S.lane m).enc))
      | 2, h1, h2 => cases h1; cases h2; exact De.sHeap (De.sEither (dv 1 (d := m.enc)) (dv 2 (d := S.count.enc)))
      | k + 3, h1, h2 => cases h1
    show Jr _ T _ (δ4 (l9 m ++ l3 m ++ l5b m ++ l3b m)) _ _
    refine Jr.ret (Je.ixL (ds := (l21 m).map S.enc) ok (De.cast (De.catL (dv 5 (d := .list ((l9 m ++ l3 m ++ l5b m ++ l3b m).map S.enc))) (De.lstA (ds := (l1 m).map S.enc) rfl rfl (by show 1 ≤ 1000; decide) fun k e d h1 h2 => ?e4) (by rw [List.length_map, List.length_map]; exact Nat.le_of_ble_eq_true rfl)) (by rw [← List.map_append]; rfl)) (Je.callS (i := 0) (ds := [.int (21 : Nat)]) ne FP (hr.mono (by omega)) (Da.cons De.int Da.nil) ⟨21, rfl, by decide, by decide⟩ fun d r => by
      rw [List.length_map, l21_len]
      exact pick_of r) fun k d hk => ?_)
    case e4 =>
      match k, h1, h2 with
      | 0, h1, h2 => cases h1; cases h2; exact De.sBoth (dv 1 (d := m.enc)) (dv 1 (d := m.enc))
      | k + 1, h1, h2 => cases h1
    rw [List.getElem?_map] at hk
    obtain ⟨s, hs, rfl⟩ := Option.map_eq_some_iff.mp hk
    exact ⟨s, hg s (List.mem_of_getElem? hs), rfl⟩
end
end LB
end
section
set_option autoImplicit false
set_option Elab.async false
set_option linter.all false
set_option maxRecDepth 100000
set_option maxHeartbeats 4000000
/-! Walks: values drawn. -/
namespace LB
open PySem PySem.Spec PySem.W PyProof.Rows L2 LamX
def PreDV (n : Nat) (ds : List PyData) : Prop := ∃ (s : S) (m : Nat), ds = [s.enc, .int (m : Nat)] ∧ m ≤ 3 ∧ Wf s ∧ dep s ≤ 5 ∧ dep s ≤ n
def RDV (ds : List PyData) (d : PyData) : Prop := ∀ (s : S) (m : Nat), ds = [s.enc, .int (m : Nat)] → DV m s d
theorem rdv_of {s : S} {m : Nat} {d : PyData} (h : DV m s d) : RDV [s.enc, .int (m : Nat)] d := fun s' m' e => by
  injection e with e1 e2
  injection e2 with e2
  injection e2 with e2
  cases enc_inj _ _ e1
  have : m = m' := by omega
  rw [← this]
  exact h
section
variable {P : Program} {w : World} {K : PySem.W.Frag} {mg : Str → Option Value} {base : Heap} {T : List (Addr × Str)} {f : Addr} {fd : FuncData}
abbrev sDV : Stmt := top 58
abbrev nDV : List Str := ["_law_source", "_law_sort", "_law_most", "_law_place", "_law_found", "_law_lap"]
theorem sc_dv : FnScope nDV ["_law_source", "_law_sort", "_law_most"] (defScope sDV) := ⟨rfl, rfl, rfl, by decide +kernel, rfl, by decide +kernel, by decide +kernel⟩
theorem w_dv (F : Fun K "_law_draw_value" "_law_draw_value" sDV f fd) (hm : mg "_law_draw_value" = some (.ref f)) (hb : Binds K fd ["_law_source", "_law_sort", "_law_most"] []) (G : Gb w mg K) (FP : FdS P w K mg base T 1 "_law_pick" PrePick RPick) (FF : Fd P w K mg base T 15 "_law_formed" (RLF 5)) :
    ∀ n, FdS P w K mg base T (n + 16) "_law_draw_value" (PreDV n) RDV
  | 0 => FdS.mk (k := 15) (m := 3) F hm hb sc_dv (fun ds ⟨_, _, e, _⟩ => by rw [e]; rfl) fun cdv A outer sh H E ds D C ne hr ⟨s0, _, _, _, _, _, h⟩ => by have := dep_pos s0; omega
  | n + 1 => by
    have IH := w_dv F hm hb G FP FF n
    show FdS P w K mg base T ((n + 16) + 1) _ _ _
    refine FdS.mk (m := 3) F hm hb sc_dv (fun ds ⟨_, _, e, _⟩ => by rw [e]; rfl) fun cdv A outer sh H E ds D C ne hr ⟨s, m, e1, hm3, wf, h5, hn⟩ => ?_
    subst e1
    have hfr := G.fr
    have ok := srcF_ok (D := D) (C := C) (i := 0) ne
    have ns : ∀ {j : Nat}, j ≠ 0 → j ∉ (srcF D C 0).sl.map (·.1) := notin_src
    let X : Cx := (cxOf CX0 P w K mg base nDV "_law_draw_value" (defScope sDV) f cdv A outer sh H E).nox
    have im : ∀ {a : S} {k : Nat} {d : PyData}, RDV [a.enc, .int (k : Nat)] d → DV k a d := fun r => r _ _ rfl
    have rows : ∀ (a : S) (k : Str), s.enc = .tuple [.str k, a.enc] → (∀ xs : List PyData, xs.length ≤ m → (∀ x ∈ xs, DV (min m 2) a x) → PT s (.tuple xs)) → (∀ (xs : List PyData) d, xs.length ≤ m → (∀ x ∈ xs, DV (min m 2) a x) → FormR s (.tuple xs) d → DV m s d) → Wf a → dep a ≤ 5 → dep a ≤ n →
        Jr X T (srcF D C 0) [none, some s.enc, some (.int (m : Nat)), none, none, none] ((defBody sDV).drop 4) (RDV [s.enc, .int (m : Nat)]) := by
      intro a k es hpt hfo wa d5 dn
      refine Jr.next (Q := fun δ1 => ∃ xs : List PyData, xs.length ≤ m ∧ (∀ x ∈ xs, DV (min m 2) a x) ∧ δ1 = [none, some s.enc, some (.int (m : Nat)), none, some (.list xs), none]) (Js1.lc (i := 5) (j := 4) (PL := fun L => L.length ≤ m) (PE := fun _ _ r => DV (min m 2) a r) ok rfl sc_dv.nd
        (jsrc_r (PM := fun k => k ≤ m) hfr (Je.callS (i := 0) (ds := [.int ((m + 1 : Nat) : Int)]) ne FP (hr.mono (by omega)) (Da.cons (De.cast (De.add (dv 2 (d := .int (m : Nat))) De.int) rfl) Da.nil) ⟨m + 1, rfl, by omega, by omega⟩ fun d r => by
          obtain ⟨k, h1, h2⟩ := pick_of r
          exact ⟨k, h1, by omega⟩) (fun k hk => by omega) (fun k hk => by rw [upto_len]; exact hk)) (fun L hL => by omega) (ns (by decide)) (ns (by decide)) (fun L hL k d hd s2 H2 C2 cl fp => ?_) (fun L rs hL lr pe => ⟨rs, by omega, fun x hx => ?_, rfl⟩)
        (blkOk_by (N := nDV) (sc := defScope sDV) (own := [("_law_lap", 5)]) (by decide +kernel)) (sw_true rfl rfl rfl rfl) (hg := fun _ _ _ _ _ => pg_name sc_dv.nd rfl (Or.inl rfl))) fun δ1 ⟨xs, lx, hx, e1⟩ => ?_
      · refine Je.callS (i := 0) (ds := [a.enc, .int ((min m 2 : Nat) : Int)]) ne IH hr (Da.cons (De.ixT (k := 1) (d := a.enc) (De.cast (dv 1 (d := s.enc)) es) De.int rfl) (Da.cons (De.cast (De.min2 hfr rfl (dv 2 (d := .int (m : Nat))) De.int) (congrArg PyData.int ?_)) Da.nil)) ⟨a, min m 2, rfl, by omega, wa, d5, dn⟩ fun d r => im r
        by_cases c : (2 : Int) < (m : Nat)
        · rw [if_pos c]
          omega
        · rw [if_neg c]
          omega
      · obtain ⟨k, hk⟩ := List.getElem?_of_mem hx
        exact pe k x hk
      · subst e1
        obtain ⟨d, hd⟩ := form_ex (hpt xs lx hx)
        exact Jr.ret (Je.of ok (De.call FF (hr.mono (by omega)) (Da.cons (dv 1 (d := s.enc)) (Da.cons (De.tupleOf hfr (dv 4 (d := .list xs))) Da.nil)) ⟨s, .tuple xs, rfl, hpt xs lx hx, h5, h5, hd⟩) (rdv_of (hfo xs d lx hx hd)))
    cases s with
    | mark ls =>
      refine Jr.ifT (Jt.of ok (Dt.kindIs (k := kMark) (s := .mark ls) (dv 1))) (Jr.ret (Je.ixT (ds := ls.map .str) ok (De.ixT (k := 1) (d := .tuple (ls.map .str)) (De.enc (s := .mark ls) (dv 1)) De.int rfl) (Je.callS (i := 0) (ds := [.int ((ls.map PyData.str).length : Nat)]) ne FP (hr.mono (by omega)) (Da.cons (De.len hfr (De.ixT (k := 1) (d := .tuple (ls.map .str)) (De.enc (s := .mark ls) (dv 1)) De.int rfl)) Da.nil) ⟨(ls.map PyData.str).length, rfl, ?_, ?_⟩ fun d r => pick_of r) fun k d hk => rdv_of ?_))
      · rw [List.length_map]
        exact wf.1
      · rw [List.length_map]
        have := wf.2.1
        omega
      · rw [List.getElem?_map] at hk
        obtain ⟨x, hx, rfl⟩ := Option.map_eq_some_iff.mp hk
        exact ⟨x, List.mem_of_getElem? hx, rfl⟩
    | count =>
      refine Jr.ifF (Jt.of ok (Dt.kindIs (k := kCount) (s := .count) (dv 1))) (Jr.ifT (Jt.of ok (Dt.kindIs (k := kCount) (s := .count) (dv 1))) (Jr.ret (Je.ixL (ds := [.int (0 : Nat), .int (1 : Nat), .int (1 : Nat), .int (2 : Nat), .int (3 : Nat)]) ok (De.lst (Da.cons De.int (Da.cons De.int (Da.cons De.int (Da.cons De.int (Da.cons De.int Da.nil)))))) (Je.callS (i := 0) (ds := [.int (5 : Nat)]) ne FP (hr.mono (by omega)) (Da.cons De.int Da.nil) ⟨5, rfl, by decide, by decide⟩ fun d r => pick_of r) fun k d hk => rdv_of ?_)))
      match k, hk with
      | 0, hk => cases hk; exact ⟨0, by decide, rfl⟩
      | 1, hk => cases hk; exact ⟨1, by decide, rfl⟩
      | 2, hk => cases hk; exact ⟨1, by decide, rfl⟩
      | 3, hk => cases hk; exact ⟨2, by decide, rfl⟩
      | 4, hk => cases hk; exact ⟨3, by decide, rfl⟩
      | k + 5, hk => cases hk
    | both a b =>
      have da := d_b1 (a := a) (b := b)
      have db := d_b2 (a := a) (b := b)
      exact Jr.ifF (Jt.of ok (Dt.kindIs (k := kBoth) (s := .both a b) (dv 1))) (Jr.ifF (Jt.of ok (Dt.kindIs (k := kBoth) (s := .both a b) (dv 1))) (Jr.ifT (Jt.of ok (Dt.kindIs (k := kBoth) (s := .both a b) (dv 1))) (Jr.ret (Je.tup (PL := fun l => ∃ x y, DV m a x ∧ DV m b y ∧ l = [x, y]) ok
        (Ja.cons (P1 := DV m a) (P2 := fun l => ∃ y, DV m b y ∧ l = [y]) (Je.callS (i := 0) (ds := [a.enc, .int (m : Nat)]) ne IH hr (Da.cons (De.ixT (k := 1) (d := a.enc) (De.enc (s := .both a b) (dv 1)) De.int rfl) (Da.cons (dv 2 (d := .int (m : Nat))) Da.nil)) ⟨a, m, rfl, hm3, wf.1, by omega, by omega⟩ fun d r => im r)
          (Ja.cons (P1 := DV m b) (P2 := fun l => l = []) (Je.callS (i := 0) (ds := [b.enc, .int (m : Nat)]) ne IH hr (Da.cons (De.ixT (k := 2) (d := b.enc) (De.enc (s := .both a b) (dv 1)) De.int rfl) (Da.cons (dv 2 (d := .int (m : Nat))) Da.nil)) ⟨b, m, rfl, hm3, wf.2, by omega, by omega⟩ fun d r => im r) (Ja.nil rfl) (fun d l h e => ⟨d, h, by rw [e]⟩)) (fun d l h ⟨y, hy, e⟩ => ⟨d, y, h, hy, by rw [e]⟩))
        (fun l ⟨x, y, _, _, e⟩ => by rw [e]; show 2 ≤ 1000; decide) fun l ⟨x, y, hx, hy, e⟩ => rdv_of (by rw [e]; exact ⟨x, y, rfl, hx, hy⟩)))))
    | either a b =>
      have da := d_e1 (a := a) (b := b)
      have db := d_e2 (a := a) (b := b)
      refine Jr.ifF (Jt.of ok (Dt.kindIs (k := kEither) (s := .either a b) (dv 1))) (Jr.ifF (Jt.of ok (Dt.kindIs (k := kEither) (s := .either a b) (dv 1))) (Jr.ifF (Jt.of ok (Dt.kindIs (k := kEither) (s := .either a b) (dv 1))) (Jr.ifT (Jt.of ok (Dt.kindIs (k := kEither) (s := .either a b) (dv 1)))
        (Jr.next (Q := fun δ1 => ∃ k : Nat, k < 2 ∧ δ1 = [none, some (S.either a b).enc, some (.int (m : Nat)), some (.int (k : Nat)), none, none]) (Js1.set (j := 3) (P := fun d => ∃ k : Nat, d = .int (k : Nat) ∧ k < 2) sc_dv.nd (Je.callS (i := 0) (ds := [.int (2 : Nat)]) ne FP (hr.mono (by omega)) (Da.cons De.int Da.nil) ⟨2, rfl, by decide, by decide⟩ fun d r => pick_of r) (fun d ⟨k, e, h⟩ => ⟨k, h, by rw [e]; rfl⟩) (ns (by decide))) fun δ1 ⟨k, hk, e1⟩ => ?_))))
      subst e1
      match k, hk with
      | 0, _ =>
        exact Jr.ret (Je.tup (PL := fun l => ∃ x, DV m a x ∧ l = [.str sL, x]) ok
          (Ja.cons (P1 := fun d => d = .str sL) (P2 := fun l => ∃ x, DV m a x ∧ l = [x]) (Je.of ok (De.ixL (k := 0) (d := .str sL) (De.lst (Da.cons De.str (Da.cons De.str Da.nil))) (dv 3 (d := .int ((0 : Nat) : Int))) rfl) rfl)
            (Ja.cons (P1 := DV m a) (P2 := fun l => l = []) (Je.callS (i := 0) (ds := [a.enc, .int (m : Nat)]) ne IH hr (Da.cons (De.ixT (k := 1) (d := a.enc) (De.enc (s := .either a b) (dv 1)) (De.cast (De.add De.int (dv 3 (d := .int ((0 : Nat) : Int)))) rfl) rfl) (Da.cons (dv 2 (d := .int (m : Nat))) Da.nil)) ⟨a, m, rfl, hm3, wf.1, by omega, by omega⟩ fun d r => im r) (Ja.nil rfl) (fun d l h e => ⟨d, h, by rw [e]⟩)) (fun d l e ⟨y, hy, e2⟩ => ⟨y, hy, by rw [e, e2]⟩))
          (fun l ⟨x, _, e⟩ => by rw [e]; show 2 ≤ 1000; decide) fun l ⟨x, hx, e⟩ => rdv_of (by rw [e]; exact .inl ⟨x, rfl, hx⟩))
      | 1, _ =>
        exact Jr.ret (Je.tup (PL := fun l => ∃ x, DV m b x ∧ l = [.str sR, x]) ok
          (Ja.cons (P1 := fun d => d = .str sR) (P2 := fun l => ∃ x, DV m b x ∧ l = [x]) (Je.of ok (De.ixL (k := 1) (d := .str sR) (De.lst (Da.cons De.str (Da.cons De.str Da.nil))) (dv 3 (d := .int ((1 : Nat) : Int))) rfl) rfl)
            (Ja.cons (P1 := DV m b) (P2 := fun l => l = []) (Je.callS (i := 0) (ds := [b.enc, .int (m : Nat)]) ne IH hr (Da.cons (De.ixT (k := 2) (d := b.enc) (De.enc (s := .either a b) (dv 1)) (De.cast (De.add De.int (dv 3 (d := .int ((1 : Nat) : Int)))) rfl) rfl) (Da.cons (dv 2 (d := .int (m : Nat))) Da.nil)) ⟨b, m, rfl, hm3, wf.2, by omega, by omega⟩ fun d r => im r) (Ja.nil rfl) (fun d l h e => ⟨d, h, by rw [e]⟩)) (fun d l e ⟨y, hy, e2⟩ => ⟨y, hy, by rw [e, e2]⟩))
          (fun l ⟨x, _, e⟩ => by rw [e]; show 2 ≤ 1000; decide) fun l ⟨x, hx, e⟩ => rdv_of (by rw [e]; exact .inr ⟨x, rfl, hx⟩))
      | k + 2, hk => omega
    | lane a =>
      have da := d_l (a := a)
      exact Jr.ifF (Jt.of ok (Dt.kindIs (k := kLane) (s := .lane a) (dv 1))) (Jr.ifF (Jt.of ok (Dt.kindIs (k := kLane) (s := .lane a) (dv 1))) (Jr.ifF (Jt.of ok (Dt.kindIs (k := kLane) (s := .lane a) (dv 1))) (Jr.ifF (Jt.of ok (Dt.kindIs (k := kLane) (s := .lane a) (dv 1)))
        (rows a kLane rfl (fun xs lx hx => ⟨xs, rfl, by omega, fun x hxm => DV.t a _ x (by omega) (hx x hxm)⟩) (fun xs d lx hx e => by
          have e : d = .tuple xs := e
          rw [e]
          exact ⟨xs, rfl, lx, hx⟩) wf (by omega) (by omega)))))
    | heap a =>
      have da := d_h (a := a)
      exact Jr.ifF (Jt.of ok (Dt.kindIs (k := kHeap) (s := .heap a) (dv 1))) (Jr.ifF (Jt.of ok (Dt.kindIs (k := kHeap) (s := .heap a) (dv 1))) (Jr.ifF (Jt.of ok (Dt.kindIs (k := kHeap) (s := .heap a) (dv 1))) (Jr.ifF (Jt.of ok (Dt.kindIs (k := kHeap) (s := .heap a) (dv 1)))
        (rows a kHeap rfl (fun xs lx hx => ⟨xs, rfl, by omega, fun x hxm => DV.t a _ x (by omega) (hx x hxm)⟩) (fun xs d lx hx ⟨xs', ys, e, ed, p, q⟩ => by
          cases e
          rw [ed]
          exact ⟨ys, rfl, by rw [p.length_eq]; exact lx, fun x hxm => hx x (p.mem_iff.mp hxm), q⟩) wf (by omega) (by omega)))))
end
end LB
end
section
set_option autoImplicit false
set_option Elab.async false
set_option linter.all false
set_option maxRecDepth 100000
set_option maxHeartbeats 4000000
/-! sorted(t) of data; l.count(x) of data; [x] * n; list = list. -/
namespace LB
open PySem PySem.Spec PySem.W PyProof.Rows L2 LamX PySem.Froz
def rSortedQ (K : PySem.W.Frag) : List V → Hp → VK → Prop := fun xs H Q => ∃ (a : Addr) (vs : List V) (ds : List PyData), xs = [V.ref a] ∧ (SqL K H a vs ∨ SqT K H a vs) ∧ DpAll K H vs ds ∧ Ord ds ∧ ds.length ≤ 1000 ∧
  ∀ p vs' ds', H p = none → DpAll K H vs' ds' → ds'.Perm ds → ds'.Pairwise (fun x y => dataLt y x = false) → Q (.ref p) (upd H p (.lst vs'))
section
variable {X : Cx}
theorem cr_sortedQ (hu : X.A.units + 64 < cLine) : CallR X (.builtin "sorted") (rSortedQ X.K) := by
  intro pins s σ H xs us Q I r h
  obtain ⟨a, vs, ds, rfl, hs, hd, ok, few, q⟩ := h
  rw [Vals.ref1 r]
  obtain ⟨ws, ty, o, n, hT, ho, hc, hdt, rv⟩ := seq_at (X := X) I hs
  obtain ⟨bs, e1, b2, b1⟩ := vd_of hd rv
  have wl : ws.length = ds.length := by
    have q1 := e1.length
    have q2 := congrArg List.length b2
    rw [List.length_map] at q2
    omega
  have big : ws.length ≤ sizeLine := by rw [sizeLine_eq]; omega
  refine Calls.call_function_entry kind_sorted plain_sorted entry_sorted (args_sorted1 _) ?_
  unfold Builtin.«sorted»
  refine wpAny_bind (m := checkCount "sorted" 1 1 _) (wpAny_pure ?_)
  refine wpAny_bind (wpAny_collect_seq a hT ho hc hdt (fun h1 k1 => ?_) (by rw [List.size_toArray]; exact big))
  rw [List.toList_toArray]
  refine wpAny_bind (wpAny_newList ?_ big)
  have hoL : (h1.push (seqObj "list" ws.toArray 0)).get? h1.objs.size = some (seqObj "list" ws.toArray 0) := Heap.get?_push_size _ rfl
  have kA : ∀ b o, s.heap.get? b = some o → (sortingHeap (h1.push (seqObj "list" ws.toArray 0)) h1.objs.size ws).get? b = some o := fun b o e => by
    have e2 := k1 b o e
    exact sortingHeap_old (Nat.ne_of_lt (Heap.lt_size e2)) (Heap.get?_push_of_some _ e2)
  have I1 : Inv X pins σ H { s with heap := h1 } := I.kept (t' := s.toks) k1
  have eR : EachIs (fun v d => ∃ as, Reads (sortingHeap (h1.push (seqObj "list" ws.toArray 0)) h1.objs.size ws) v d as) ws (bs.map (·.2)) := by
    have go : ∀ {ws : List Value} {bs : List VD}, EachIs (RVD X.K H) ws bs → EachIs (fun v d => ∃ as, Reads s.heap v d as) ws (bs.map (·.2)) := by
      intro ws bs e
      induction e with
      | nil => exact .nil
      | cons h t ih => exact .cons (Dp.reads I _ _ _ h.2 h.1) ih
    exact (go e1).mono fun v d ⟨as, r⟩ => ⟨as, Reads.kept kA r⟩
  have hp' : ∀ d ∈ bs.map (·.2), pl d = true := fun d hd => ok.pl d (by rw [← b2]; exact hd)
  have S : SortsAt X.prog X.w X.A.in1.in1 { s with heap := sortingHeap (h1.push (seqObj "list" ws.toArray 0)) h1.objs.size ws } (dataKind (sortingHeap (h1.push (seqObj "list" ws.toArray 0)) h1.objs.size ws) (bs.map (·.2))) ws :=
    sorts_wal (s := { s with heap := sortingHeap (h1.push (seqObj "list" ws.toArray 0)) h1.objs.size ws }) eR hp' (fun d hd d' hd' => ok.wal d (by rw [← b2]; exact hd) d' (by rw [← b2]; exact hd')) fun d hd => by
      have := ok.deep d (by rw [← b2]; exact hd)
      simp only [Around.in1_units]
      omega
  obtain ⟨bs', e3, p3, pw⟩ := sorted_by (h := sortingHeap (h1.push (seqObj "list" ws.toArray 0)) h1.objs.size ws) (kz := bs.map (·.2)) (fun b : VD => b.2) e1 (each_mapR (fun b : VD => b.2) (each_keyOf hp' (fun d hd => hd) eR))
  refine wpAny_bind (wpAny_holding (wpAny_call_entry slot_list_sort ⟨_, hoL, rfl⟩ entry_list_sort (list_sort_vals (s := { s with heap := h1.push (seqObj "list" ws.toArray 0) }) hoL S big ?_) (args_list_sort _)))
  refine ⟨.none, rfl, ?_⟩
  generalize hout : sortVals (dataKind (sortingHeap (h1.push (seqObj "list" ws.toArray 0)) h1.objs.size ws) (bs.map (·.2))) false ws ws = out at e3 ⊢
  obtain ⟨c, hcL⟩ := sortedHeap_at (vs := ws) (out := out.toArray) hoL
  obtain ⟨rv', dv'⟩ := vd_back e3
  have hn : H h1.objs.size = none := I1.hok.fresh (Nat.le_refl _)
  have hlen : (bs'.map (·.1)).length ≤ sizeLine := by
    have q1 := p3.length_eq
    have q2 := e1.length
    rw [List.length_map, q1, ← q2]
    exact big
  have k2 : ∀ b o, h1.get? b = some o → (sortedHeap (h1.push (seqObj "list" ws.toArray 0)) h1.objs.size ws out.toArray).get? b = some o := fun b o e2 => by
    have lt := Heap.lt_size e2
    rw [sortedHeap_old (Nat.ne_of_lt lt) (by rw [size_push']; exact Nat.lt_succ_of_lt lt)]
    exact Heap.get?_push_of_some _ e2
  have J : Inv X pins σ (upd H h1.objs.size (.lst (bs'.map (·.1)))) { s with heap := sortedHeap (h1.push (seqObj "list" ws.toArray 0)) h1.objs.size ws out.toArray } :=
    I1.laid (t' := s.toks) k2 (Nat.le_refl _) ⟨hlen, out, c, rv', hcL⟩
  exact wpAny_pure ⟨_, rfl, .ref h1.objs.size, _, J, rfl, q _ (bs'.map (·.1)) (bs'.map (·.2)) hn dv' ((p3.map _).trans (by rw [b2])) (List.pairwise_map.mpr pw)⟩
variable {T : List (Addr × Str)} {δ : List (Option PyData)} {a b e : Expr} {p p1 pos : Pos} {d : PyData} {ds res : List PyData}
/-- sorted(t) -/
theorem De.sortedT (fr : Free X.mg) (hu : X.A.units + 64 < cLine) (h : De X T δ e (.tuple ds) ∨ De X T δ e (.list ds)) (ok : Ord ds) (few : ds.length ≤ 1000) (uniq : ∀ ds' : List PyData, ds'.Perm ds → ds'.Pairwise (fun x y => dataLt y x = false) → ds' = res)
    (hg : Gl X "sorted" := by rfl) (he : starEach [e] X.env = (false, eval e X.env) :: starEach [] X.env := by rfl) : De X T δ (.Call (.Name "sorted" p) [e] [] pos) (.list res) := by
  refine De.of (pe_callB (cr_sortedQ hu) hg (fr _ (by decide)) (by rfl) (pa_cons pe_ev pa_nil he) (by decide) (by decide) he (by rfl)) fun σ H Q hl hd t q => ?_
  have main : ∀ v H1, Gw T H H1 → (∃ a xs, v = V.ref a ∧ (SqL X.K H1 a xs ∨ SqT X.K H1 a xs) ∧ DpAll X.K H1 xs ds) → rSortedQ X.K [v] H1 Q := fun v H1 g1 ⟨a, xs, ev, hs, hv⟩ => ⟨a, xs, ds, by rw [ev], hs, hv, ok, few, fun r vs' ds' hr dv pm pw => by
    have e2 := uniq ds' pm pw
    subst e2
    have z := lay_lst hr dv g1.2
    exact q _ _ (g1.trans z.1) z.2⟩
  rcases h with h | h
  · exact h.go hl hd t fun v H1 g1 d1 => by
      cases d1 with
      | tup hs hv => exact main _ H1 g1 ⟨_, _, rfl, .inr hs, hv⟩
  · exact h.go hl hd t fun v H1 g1 d1 => by
      cases d1 with
      | lst hs hv => exact main _ H1 g1 ⟨_, _, rfl, .inl hs, hv⟩
theorem flat_rep {α : Type} (x : α) : ∀ n : Nat, (List.replicate n [x]).flatten = List.replicate n x
  | 0 => rfl
  | n + 1 => by rw [List.replicate_succ, List.flatten_cons, flat_rep x n, List.replicate_succ]; rfl
theorem dp_rep {K : PySem.W.Frag} {H : Hp} {x : V} (dx : Dp K H x d) : ∀ n : Nat, DpAll K H (List.replicate n x) (List.replicate n d)
  | 0 => .nil
  | n + 1 => .cons dx (dp_rep dx n)
/-- [x] * n -/
theorem De.rep1 {n : Nat} (ha : De X T δ a d) (hb : De X T δ b (.int (n : Nat))) (few : n ≤ 1000) (he : starEach [a] X.env = (false, eval a X.env) :: starEach [] X.env := by rfl) : De X T δ (.BinOp (.List [a] p) .Mult b pos) (.list (List.replicate n d)) :=
  De.of (pe_op op_rep (pe_lst (pa_cons pe_ev pa_nil he)) pe_ev) fun σ H Q hl hd t q => ha.go hl hd t fun x H1 g1 d1 => ⟨by rw [sizeLine_eq]; show 1 ≤ _; decide, fun r hr => by
    have z := lay_lst hr (.cons d1 .nil) g1.2
    refine hb.go hl (hd.gw (g1.trans z.1)) z.1.2 fun y H2 g2 d2 => ?_
    cases d2
    have hl2 : H2 r = some (.lst [x]) := g2.lst upd_same
    refine ⟨r, (n : Int), [x], rfl, rfl, hl2, by omega, by omega, by show 1 * (n : Int).toNat ≤ _; rw [sizeLine_eq]; omega, fun r2 hr2 => ?_⟩
    have ef : (List.replicate (n : Int).toNat [x]).flatten = List.replicate n x := by
      rw [Int.toNat_natCast]
      exact flat_rep x n
    rw [ef]
    have dr : DpAll X.K H2 (List.replicate n x) (List.replicate n d) := dp_rep (Dp.gw (z.1.trans g2) _ _ d1) n
    have z2 := lay_lst hr2 dr g2.2
    exact q _ _ (((g1.trans z.1).trans g2).trans z2.1) z2.2⟩
/-- l.count(x) of data -/
def rCntD (K : PySem.W.Frag) : V → List V → Hp → VK → Prop := fun x xs H Q => ∃ (a : Addr) (y : V) (d : PyData) (ds : List PyData), x = V.ref a ∧ xs = [y] ∧ Dp K H (V.ref a) (.list ds) ∧ Dp K H y d ∧
  SeqAt.shaped (.list ds) = true ∧ SeqAt.shaped d = true ∧ Q (.int ((ds.countP fun z => PyData.eqv z d : Nat) : Int)) H
theorem mt_countD (hu : X.A.units + 65 < cLine) : MtR X "list.count" (rCntD X.K) := by
  intro pins s σ H x xs v us Q I rx rxs h
  obtain ⟨a, y, d, ds, rfl, rfl, hl, hy, sl, sd, q⟩ := h
  cases rx
  cases rxs with
  | cons ry rt =>
    rename_i uy ut
    cases rt
    obtain ⟨bs, r1⟩ := Dp.reads I d y uy hy ry
    have hxs : PyData.canLayAll0 ds = true := SeqAt.canLay_of_shaped sl
    have hroom : X.A.units + 1 + min (PyData.depthAll ds) d.depth < cLine := room_in_shaped sd hu
    cases hl with
    | lst hs ha =>
      obtain ⟨its, rv, ⟨⟨cls, dd, data, sls⟩, n, ho, hc, hdn, hdt⟩, hlen⟩ := I.list hs
      simp only at hc hdt
      subst hc hdt
      obtain ⟨as, h4⟩ := Dp.readsAll I ds _ its ha rv
      have hmap : its.map (SeqAt.readOf s.heap) = ds := SeqAt.readsAll_map ds its as hxs h4
      refine call_meets PySem.F.slot_list_count ⟨_, ho, rfl⟩ PySem.F.entry_list_count (PySem.F.args_list_count_2 _ _)
        (SeqAt.list_countAt a its.toArray n dd sls uy (fun u => PyData.eqv (SeqAt.readOf s.heap u) d)) ⟨ho, SeqAt.items_eqAt (vs := its.toArray) (show ReadsAll s.heap its.toArray.toList ds as from h4) r1 hxs (SeqAt.canLay_of_shaped sd) hroom, ?_⟩
      have ec : its.toArray.toList.countP (fun u => PyData.eqv (SeqAt.readOf s.heap u) d) = ds.countP fun z => PyData.eqv z d := by
        rw [← hmap, List.countP_map]
        rfl
      exact ⟨.int ((ds.countP fun z => PyData.eqv z d : Nat) : Int), H, I.tok _, ⟨s.toks, by rw [ec]⟩, q⟩
theorem De.countD {o : Expr} {apos cpos : Pos} (hu : X.A.units + 65 < cLine) (ho : De X T δ o (.list ds)) (he : De X T δ e d) (s1 : SeqAt.shaped (.list ds) = true) (s2 : SeqAt.shaped d = true)
    (hbase : attributeBase o "count" X.env (eval o X.env) = eval o X.env := by rfl)
    (hfew : ((backTo cpos (starEach (e :: []) X.env)).all (fun x => !x.1) && (backToKw cpos (keywordEach [] X.env)).all (fun x => x.1.isSome)
      && decide ((e :: []).length + ([] : List Keyword).length + (if ([] : List Keyword).isEmpty then 0 else 1) < 30)) = true := by rfl)
    (hline : (apos.endLine == cpos.line) = true := by rfl) (hs : starEach (e :: []) X.env = (false, eval e X.env) :: starEach [] X.env := by rfl) (hplain : (backTo cpos (starEach [] X.env)).any (·.1) = false := by rfl) :
    De X T δ (.Call (.Attribute o "count" apos) [e] [] cpos) (.int ((ds.countP fun z => PyData.eqv z d : Nat) : Int)) :=
  De.of (pe_bm PySem.F.plainAttrs_list PySem.F.slot_list_count PySem.F.type_list_count (mt_countD hu) pe_ev (pa_cons pe_ev pa_nil hs) hbase hfew hline hs hplain) fun σ H Q hl hd t q => ho.go hl hd t fun v H1 g1 d1 => by
    have d1' := d1
    cases d1' with
    | @lst a xs _ hq hv => exact ⟨.inl ⟨rfl, xs, hq⟩, he.go hl (hd.gw g1) g1.2 fun y H2 g2 d2 => ⟨a, y, d, ds, rfl, rfl, Dp.gw g2 _ _ d1, d2, s1, s2, q _ _ (g1.trans g2) (.int _)⟩⟩
/-- x in l of data -/
theorem De.inD (hu : X.A.units + 65 < cLine) (ha : De X T δ a d) (hb : De X T δ b (.list ds)) (s1 : SeqAt.shaped d = true) (s2 : SeqAt.shaped (.list ds) = true) (hm : behindInMarks .In b = false := by with_unfolding_all rfl) : De X T δ (.Compare a [.In] [b] pos) (.bool (ds.any fun z => PyData.eqv z d)) :=
  De.of (pe_cmpR (op_inD hu) pe_ev pe_ev hm) fun σ H Q hl hd t q => ha.go hl hd t fun x H1 g1 d1 => hb.go hl (hd.gw g1) g1.2 fun y H2 g2 d2 => ⟨d, ds, Dp.gw g2 _ _ d1, d2, s1, s2, q _ _ (g1.trans g2) (.bl _)⟩
/-- != of bools -/
theorem Dt.neB {i j : Bool} (ha : De X T δ a (.bool i)) (hb : De X T δ b (.bool j)) : Dt X T δ (.Compare a [.NotEq] [b] pos) (!decide (i = j)) :=
  Dt.of (pt_cmpR op_ne pe_ev pe_ev (nomark _)) fun σ H Q hl hd t q => ha.go hl hd t fun v H1 g1 d1 => hb.go hl (hd.gw g1) g1.2 fun u H2 g2 d2 => by
    cases d1
    cases d2
    have e : decide (V.bl i = V.bl j) = decide (i = j) := by simp
    refine ⟨rfl, _, rfl, ?_⟩
    rw [e]
    exact q _ (g1.trans g2)
end
end LB
end
section
set_option autoImplicit false
set_option Elab.async false
set_option linter.all false
set_option maxRecDepth 100000
set_option maxHeartbeats 4000000
/-! Walks: the law's checks. -/
namespace LB
open PySem PySem.Spec PySem.W PyProof.Rows L2 LamX
def RChk (ok : S → Bool) (ds : List PyData) (d : PyData) : Prop := ∃ (s : S) (vs : List PyData), ds = [s.enc, .list vs] ∧ SG s ∧ ok s = true ∧ (∀ v ∈ vs, LB.T s v) ∧ vs.length ≤ 10 ∧ d = .bool true
section
variable {P : Program} {w : World} {K : PySem.W.Frag} {mg : Str → Option Value} {base : Heap} {T : List (Addr × Str)} {f : Addr} {fd : FuncData}
abbrev sOR : Stmt := top 59
abbrev nOR : List Str := ["_law_sort", "_law_values", "_law_v", "_law_u", "_law_w"]
theorem sc_or : FnScope nOR ["_law_sort", "_law_values"] (defScope sOR) := ⟨rfl, rfl, rfl, by decide +kernel, rfl, by decide +kernel, by decide +kernel⟩
theorem w_or (F : Fun K "_law_orders_right" "_law_orders_right" sOR f fd) (hm : mg "_law_orders_right" = some (.ref f)) (hb : Binds K fd ["_law_sort", "_law_values"] []) (G : Gb w mg K) (FH : Fd P w K mg base T 36 "holds" (RS2 (fun _ => true) holdsD)) (FS : Fd P w K mg base T 22 "size" (RSV fun s v => .int (sz s v : Nat))) :
    Fd P w K mg base T 37 "_law_orders_right" (RChk fun _ => true) := by
  refine Fd.mk (m := 3) F hm hb sc_or (fun ds d ⟨_, _, e, _⟩ => by rw [e]; rfl) fun cdv A outer sh H E ds d hr ⟨s, vs, e1, sg, _, hv, few, e2⟩ => ?_
  subst e1 e2
  have hfr := G.fr
  let X : Cx := (cxOf CX0 P w K mg base nOR "_law_orders_right" (defScope sOR) f cdv A outer sh H E).nox
  have hu : X.A.units + 64 < cLine := hr.units
  have wf := sg.good.wf
  have h5 := sg.good.dp
  have hR : ∀ {v u : PyData}, LB.T s v → LB.T s u → RS2 (fun _ => true) holdsD [s.enc, v, u] (.bool (hB s v u)) := fun tv tu => ⟨s, _, _, rfl, sg.good, rfl, tv, tu, rfl⟩
  have sR : ∀ {v : PyData}, LB.T s v → RSV (fun s v => .int (sz s v : Nat)) [s.enc, v] (.int (sz s v : Nat)) := fun tv => ⟨s, _, rfl, sg.good, tv, rfl⟩
  refine Dr.next (δ₁ := [some s.enc, some (.list vs), none, none, none]) (Dn1.forL (i := 2) PassesOwn.never rfl (dv 1 (d := .list vs)) (fun v hvm => ?_) rfl (pg_name sc_or.nd rfl (Or.inl rfl))) ?_
  · have tv := hv v hvm
    refine ⟨[some s.enc, some (.list vs), some v, none, none], Dn.cons (Dn1.forL (i := 3) PassesOwn.never rfl (dv 1 (d := .list vs)) (fun u hum => ?_) rfl (pg_name sc_or.nd rfl (Or.inl rfl))) Dn.nil, Sub.tl (Sub.tl (Sub.no (Sub.tl (Sub.tl Sub.ni))))⟩
    have tu := hv u hum
    refine ⟨[some s.enc, some (.list vs), some v, some u, none], Dn.cons (Dn1.ifF ?_) (Dn.cons (Dn1.ifF ?_) (Dn.cons (Dn1.forL (i := 4) PassesOwn.never rfl (dv 1 (d := .list vs)) (fun x hxm => ?_) rfl (pg_name sc_or.nd rfl (Or.inl rfl))) Dn.nil)), Sub.tl (Sub.tl (Sub.tl (Sub.no (Sub.tl Sub.ni))))⟩
    · cases h1 : hB s v u with
      | false => exact Dt.w (Dw.andF (Dt.cast (Dt.val (De.call FH hr (Da.cons (dv 0 (d := s.enc)) (Da.cons (dv 2 (d := v)) (Da.cons (dv 3 (d := u)) Da.nil))) (hR tv tu))) h1))
      | true =>
        cases h2 : hB s u v with
        | false => exact Dt.w (Dw.andT (Dt.cast (Dt.val (De.call FH hr (Da.cons (dv 0 (d := s.enc)) (Da.cons (dv 2 (d := v)) (Da.cons (dv 3 (d := u)) Da.nil))) (hR tv tu))) h1) (Dw.andF (Dt.cast (Dt.val (De.call FH hr (Da.cons (dv 0 (d := s.enc)) (Da.cons (dv 3 (d := u)) (Da.cons (dv 2 (d := v)) Da.nil))) (hR tu tv))) h2)))
        | true =>
          refine Dt.w (Dw.andT (Dt.cast (Dt.val (De.call FH hr (Da.cons (dv 0 (d := s.enc)) (Da.cons (dv 2 (d := v)) (Da.cons (dv 3 (d := u)) Da.nil))) (hR tv tu))) h1) (Dw.andT (Dt.cast (Dt.val (De.call FH hr (Da.cons (dv 0 (d := s.enc)) (Da.cons (dv 3 (d := u)) (Da.cons (dv 2 (d := v)) Da.nil))) (hR tu tv))) h2) (Dw.and1 (Dt.cast (Dt.ne hu (dv 2 (d := v)) (dv 3 (d := u)) (T_shaped wf h5 tv) (T_shaped wf h5 tu)) ?_))))
          rw [(T_eqv wf tv tu).mpr (hd_anti tv tu (hB_iff.mp h1) (hB_iff.mp h2))]
          rfl
    · cases h1 : hB s v u with
      | false => exact Dt.w (Dw.andF (Dt.cast (Dt.val (De.call FH hr (Da.cons (dv 0 (d := s.enc)) (Da.cons (dv 2 (d := v)) (Da.cons (dv 3 (d := u)) Da.nil))) (hR tv tu))) h1))
      | true =>
        refine Dt.w (Dw.andT (Dt.cast (Dt.val (De.call FH hr (Da.cons (dv 0 (d := s.enc)) (Da.cons (dv 2 (d := v)) (Da.cons (dv 3 (d := u)) Da.nil))) (hR tv tu))) h1) (Dw.and1 (Dt.cast (Dt.gtI (De.call FS (hr.mono (by omega)) (Da.cons (dv 0 (d := s.enc)) (Da.cons (dv 3 (d := u)) Da.nil)) (sR tu)) (De.sub (De.call FS (hr.mono (by omega)) (Da.cons (dv 0 (d := s.enc)) (Da.cons (dv 2 (d := v)) Da.nil)) (sR tv)) (De.intB hfr (De.ne hu (dv 3 (d := u)) (dv 2 (d := v)) (T_shaped wf h5 tu) (T_shaped wf h5 tv))))) (decide_eq_false ?_))))
        rcases hd_size s v u tv tu (hB_iff.mp h1) with e | lt
        · rw [(T_eqv wf tu tv).mpr e, e]
          show ¬ ((sz s v : Nat) : Int) > (sz s v : Nat) - (if (!true) = true then 1 else 0)
          rw [if_neg (by decide)]
          omega
        · have ne : u ≠ v := fun z => by rw [z] at lt; omega
          have ev : PyData.eqv u v = false := Bool.eq_false_iff.mpr fun z => ne ((T_eqv wf tu tv).mp z)
          rw [ev]
          show ¬ ((sz s u : Nat) : Int) > (sz s v : Nat) - (if (!false) = true then 1 else 0)
          rw [if_pos (by decide)]
          omega
    · have tx := hv x hxm
      refine ⟨[some s.enc, some (.list vs), some v, some u, some x], Dn.cons (Dn1.ifF ?_) Dn.nil, Sub.tl (Sub.tl (Sub.tl (Sub.tl (Sub.no Sub.ni))))⟩
      cases h1 : hB s v u with
      | false => exact Dt.w (Dw.andF (Dt.cast (Dt.val (De.call FH hr (Da.cons (dv 0 (d := s.enc)) (Da.cons (dv 2 (d := v)) (Da.cons (dv 3 (d := u)) Da.nil))) (hR tv tu))) h1))
      | true =>
        cases h2 : hB s u x with
        | false => exact Dt.w (Dw.andT (Dt.cast (Dt.val (De.call FH hr (Da.cons (dv 0 (d := s.enc)) (Da.cons (dv 2 (d := v)) (Da.cons (dv 3 (d := u)) Da.nil))) (hR tv tu))) h1) (Dw.andF (Dt.cast (Dt.val (De.call FH hr (Da.cons (dv 0 (d := s.enc)) (Da.cons (dv 3 (d := u)) (Da.cons (dv 4 (d := x)) Da.nil))) (hR tu tx))) h2)))
        | true =>
          refine Dt.w (Dw.andT (Dt.cast (Dt.val (De.call FH hr (Da.cons (dv 0 (d := s.enc)) (Da.cons (dv 2 (d := v)) (Da.cons (dv 3 (d := u)) Da.nil))) (hR tv tu))) h1) (Dw.andT (Dt.cast (Dt.val (De.call FH hr (Da.cons (dv 0 (d := s.enc)) (Da.cons (dv 3 (d := u)) (Da.cons (dv 4 (d := x)) Da.nil))) (hR tu tx))) h2) (Dw.and1 (Dt.cast (Dt.not (Dt.val (De.call FH hr (Da.cons (dv 0 (d := s.enc)) (Da.cons (dv 2 (d := v)) (Da.cons (dv 4 (d := x)) Da.nil))) (hR tv tx)))) ?_))))
          rw [hB_iff.mpr (hd_trans s v u x (hB_iff.mp h1) (hB_iff.mp h2))]
          rfl
  · refine Dr.ret (De.allT (ds := vs.map fun _ => .bool true) hfr rfl (De.lcm rfl sc_or.nd (src_l (i := 2) (dv 1 (d := .list vs)) (fun _ _ _ _ _ => pg_name sc_or.nd rfl (Or.inl rfl))) ?_ ?_ (fun j b e hb he s2 H2 C cl fp => ?_) (blkOk_by (N := nOR) (sc := defScope sOR) (own := [("_law_v", 2)]) (by decide +kernel))) ?_)
    · rw [ones_len, List.length_map]
    · rw [ones_len]
      omega
    · obtain ⟨v, hv1, rfl⟩ := ones_at hb
      rw [List.getElem?_map, hv1] at he
      cases he
      have tv := hv v (List.mem_of_getElem? hv1)
      exact De.cast (De.call FH hr (Da.cons (dv 0 (d := s.enc)) (Da.cons (dv 2 (d := v)) (Da.cons (dv 2 (d := v)) Da.nil))) (hR tv tv)) (by rw [hB_iff.mpr (hd_refl s v tv)])
    · intro d hd
      obtain ⟨_, _, rfl⟩ := List.mem_map.mp hd
      rfl
end
end LB
end
section
set_option autoImplicit false
set_option Elab.async false
set_option linter.all false
set_option maxRecDepth 100000
set_option maxHeartbeats 4000000
/-! Walks: the law's checks of least values and places. -/
namespace LB
open PySem PySem.Spec PySem.W PyProof.Rows L2 LamX
theorem Ds.cast {X : Cx} {T : List (Addr × Str)} {δ : List (Option PyData)} {st : Stmt} {j : Nat} {d d' : PyData} (h : Ds X T δ st j d) (q : d = d') : Ds X T δ st j d' := q ▸ h
theorem filter_rep {v : PyData} {p : PyData → Bool} : ∀ l : List PyData, (∀ u ∈ l, p u = true → u = v) → l.filter p = List.replicate (l.countP p) v
  | [], _ => rfl
  | u :: l, h => by
    have ih := filter_rep l fun z hz => h z (List.mem_cons_of_mem _ hz)
    by_cases c : p u = true
    · rw [List.filter_cons_of_pos c, List.countP_cons_of_pos c, ih, h u List.mem_cons_self c, List.replicate_succ]
    · rw [List.filter_cons_of_neg c, List.countP_cons_of_neg c, ih]
theorem countP_one {v : PyData} {p : PyData → Bool} : ∀ l : List PyData, l.Nodup → v ∈ l → p v = true → (∀ u ∈ l, p u = true → u = v) → l.countP p = 1
  | u :: l, nd, hv, pv, h => by
    obtain ⟨n1, n2⟩ := List.nodup_cons.mp nd
    by_cases c : p u = true
    · have e := h u List.mem_cons_self c
      rw [List.countP_cons_of_pos c]
      have z : l.countP p = 0 := by
        rw [List.countP_eq_zero]
        intro x hx px
        have ex := h x (List.mem_cons_of_mem _ hx) px
        rw [ex, ← e] at hx
        exact n1 hx
      rw [z]
    · rw [List.countP_cons_of_neg c]
      refine countP_one l n2 ((List.mem_cons.mp hv).resolve_left fun e => c ?_) pv fun x hx => h x (List.mem_cons_of_mem _ hx)
      rw [← e]
      exact pv
theorem filt_map (p : PyData → Bool) : ∀ l : List PyData, l.filterMap (fun u => if p u = true then some u else none) = l.filter p
  | [] => rfl
  | u :: l => by
    rw [List.filterMap_cons, List.filter_cons, filt_map p l]
    cases p u <;> simp
section
variable {P : Program} {w : World} {K : PySem.W.Frag} {mg : Str → Option Value} {base : Heap} {T : List (Addr × Str)} {f : Addr} {fd : FuncData}
abbrev sLR : Stmt := top 60
abbrev nLst : List Str := ["_law_sort", "_law_values", "_law_lowest", "_law_v", "_law_some", "_law_u"]
theorem sc_lr : FnScope nLst ["_law_sort", "_law_values"] (defScope sLR) := ⟨rfl, rfl, rfl, by decide +kernel, rfl, by decide +kernel, by decide +kernel⟩
theorem w_lr (F : Fun K "_law_least_right" "_law_least_right" sLR f fd) (hm : mg "_law_least_right" = some (.ref f)) (hb : Binds K fd ["_law_sort", "_law_values"] []) (G : Gb w mg K) (FH : Fd P w K mg base T 36 "holds" (RS2 (fun _ => true) holdsD)) (FL : Fd P w K mg base T 11 "least_values" RLeastV) (FI : Fd P w K mg base T 20 "is_value" (RSV fun _ _ => .bool true)) (FO : Fd P w K mg base T 21 "ordered" ROrd) :
    Fd P w K mg base T 37 "_law_least_right" (RChk fun _ => true) := by
  refine Fd.mk (m := 4) F hm hb sc_lr (fun ds d ⟨_, _, e, _⟩ => by rw [e]; rfl) fun cdv A outer sh H E ds d hr ⟨s, vs, e1, sg, _, hv, few, e2⟩ => ?_
  subst e1 e2
  have hfr := G.fr
  let X : Cx := (cxOf CX0 P w K mg base nLst "_law_least_right" (defScope sLR) f cdv A outer sh H E).nox
  have hu : X.A.units + 64 < cLine := hr.units
  have hu5 : X.A.units + 65 < cLine := by have := hr.un; show (A.deeper _).units + 65 < cLine; omega
  have wf := sg.good.wf
  have h5 := sg.good.dp
  have hR : ∀ {v u : PyData}, LB.T s v → LB.T s u → RS2 (fun _ => true) holdsD [s.enc, v, u] (.bool (hB s v u)) := fun tv tu => ⟨s, _, _, rfl, sg.good, rfl, tv, tu, rfl⟩
  generalize hls : leastM s = ls
  have lT : ∀ u ∈ ls, LB.T s u := fun u hu => least_T s u (by rw [hls]; exact hu)
  have lfew : ls.length ≤ 27 := by
    rw [← hls, least_len]
    exact sg.good.cm s (subs_self s)
  have lnd : ls.Nodup := by rw [← hls]; exact least_nodup s sg.ok
  have lso : ls.Pairwise (Le s) := by rw [← hls]; exact least_sorted s sg.ok
  have lmin : ∀ u ∈ ls, ∀ x, LB.T s x → hB s u x = true → x = u := fun u hu x tx h => least_min s u x (by rw [hls]; exact hu) tx (hB_iff.mp h)
  let δ1 : List (Option PyData) := [some s.enc, some (.list vs), some (.list ls), none, none, none]
  refine Dr.next (δ₁ := δ1) (Dn1.set (i := 2) sc_lr.nd (De.call FL (hr.mono (by omega)) (Da.cons (dv 0 (d := s.enc)) Da.nil) ⟨s, rfl, sg.good, by rw [hls]⟩)) ?_
  refine Dr.next (δ₁ := δ1) (Dn1.forL (i := 3) PassesOwn.never rfl (dv 1 (d := .list vs)) (fun v hvm => ?_) rfl (pg_name sc_lr.nd rfl (Or.inr rfl))) ?_
  · have tv := hv v hvm
    refine ⟨[some s.enc, some (.list vs), some (.list ls), some v, none, none], Dn.cons (Dn1.ifF (Dt.not (b := true) (Dt.cast (Dt.val (De.any (bs := ls.map (hB s v)) hfr rfl (De.lcm rfl sc_lr.nd (src_l (i := 5) (dv 2 (d := .list ls)) (fun _ _ _ _ _ => pg_name sc_lr.nd rfl (Or.inl rfl))) ?_ ?_ (fun j b e hb he s2 H2 C cl fp => ?_) (blkOk_by (N := nLst) (sc := defScope sLR) (own := [("_law_u", 5)]) (by decide +kernel))))) ?_))) Dn.nil, Sub.tl (Sub.tl (Sub.tl (Sub.no (Sub.tl (Sub.tl Sub.ni)))))⟩
    · rw [ones_len, List.length_map, List.length_map]
    · rw [ones_len]
      omega
    · obtain ⟨u, hu1, rfl⟩ := ones_at hb
      rw [List.getElem?_map, List.getElem?_map, hu1] at he
      cases he
      exact De.call FH hr (Da.cons (dv 0 (d := s.enc)) (Da.cons (dv 3 (d := v)) (Da.cons (dv 5 (d := u)) Da.nil))) (hR tv (lT u (List.mem_of_getElem? hu1)))
    · obtain ⟨u, hu1, hu2⟩ := least_below s v tv
      rw [List.any_map, List.any_eq_true]
      exact ⟨u, by rw [← hls]; exact hu1, hB_iff.mpr hu2⟩
  · refine Dr.next (δ₁ := δ1) (Dn1.forL (i := 3) PassesOwn.never rfl (dv 2 (d := .list ls)) (fun v hvm => ?_) rfl (pg_name sc_lr.nd rfl (Or.inr rfl))) ?_
    · have tv := lT v hvm
      have allT : ∀ u ∈ ls ++ vs, LB.T s u := fun u hu => by
        rcases List.mem_append.mp hu with h | h
        · exact lT u h
        · exact hv u h
      let some_ : List PyData := (ls ++ vs).filter (hB s v)
      let n : Nat := vs.countP fun z => PyData.eqv z v
      have eqp : ∀ u ∈ vs, hB s v u = PyData.eqv u v := fun u hu => by
        rw [Bool.eq_iff_iff]
        constructor
        · intro h
          exact (T_eqv wf (hv u hu) tv).mpr (lmin v hvm u (hv u hu) h)
        · intro h
          rw [(T_eqv wf (hv u hu) tv).mp h]
          exact hB_iff.mpr (hd_refl s v tv)
      have hsome : some_ = List.replicate (1 + n) v := by
        show (ls ++ vs).filter (hB s v) = _
        rw [filter_rep (v := v) _ fun u hu h => lmin v hvm u (allT u hu) h, List.countP_append, countP_one ls lnd hvm (hB_iff.mpr (hd_refl s v tv)) fun u hu h => lmin v hvm u (lT u hu) h]
        congr 2
        exact List.countP_congr fun u hu => by rw [eqp u hu]
      have someT : ∀ u ∈ some_, LB.T s u := fun u hu => allT u (List.mem_filter.mp hu).1
      have repT : ∀ u ∈ List.replicate (1 + n) v, LB.T s u := fun u hu => by rw [List.eq_of_mem_replicate hu]; exact tv
      have nl : n ≤ vs.length := List.countP_le_length
      have ll : (ls ++ vs).length ≤ 37 := by rw [List.length_append]; omega
      have sl : some_.length ≤ 37 := by have := List.length_filter_le (hB s v) (ls ++ vs); show ((ls ++ vs).filter (hB s v)).length ≤ 37; omega
      refine ⟨[some s.enc, some (.list vs), some (.list ls), some v, some (.list some_), none], Dn.cons (Dn1.ofS (i := 4) (δ := [some s.enc, some (.list vs), some (.list ls), some v, none, none]) ?_ (by show 4 < 6; decide)) (Dn.cons (Dn1.ifF (Dt.w (Dw.orF (Dt.not (b := true) (Dt.val (De.call FI (hr.mono (by omega)) (Da.cons (dv 0 (d := s.enc)) (Da.cons (dv 3 (d := v)) Da.nil)) ⟨s, v, rfl, sg.good, tv, rfl⟩))) (Dw.or1 (Dt.cast (Dt.ne hu (dv 4 (d := .list some_)) (De.rep1 (n := 1 + n) (dv 3 (d := v)) (De.cast (De.add De.int (De.countD hu5 (dv 1 (d := .list vs)) (dv 3 (d := v)) (list_shaped wf h5 hv) (T_shaped wf h5 tv))) (congrArg PyData.int (by omega))) (by omega)) (list_shaped wf h5 someT) (list_shaped wf h5 repT)) ?_))))) Dn.nil), Sub.tl (Sub.tl (Sub.tl (Sub.no (Sub.no (Sub.tl Sub.ni)))))⟩
      · refine Ds.cast (Ds.lc (out := fun j => (ls ++ vs)[j]?.bind fun u => if hB s v u = true then some u else none) (ok := fun δ b => TstOk _ T _ δ _ b) rfl sc_lr.nd (src_l (i := 5) (De.catL (dv 2 (d := .list ls)) (dv 1 (d := .list vs)) (by omega)) (fun _ _ _ _ _ => pg_name sc_lr.nd rfl (Or.inl rfl))) ift_one (by rw [ones_len]; omega) (fun j b hb s3 H3 C3 cl3 fp3 => ?_) (fun j b e hb he s3 H3 C3 cl3 fp3 => ?_) (blkOk_by (N := nLst) (sc := defScope sLR) (own := [("_law_u", 5)]) (by decide +kernel)) (sw_true rfl rfl rfl rfl)) ?_
        · obtain ⟨u, hu1, rfl⟩ := ones_at hb
          rw [hu1]
          refine Dt.cast (Dt.val (De.call FH hr (Da.cons (dv 0 (d := s.enc)) (Da.cons (dv 3 (d := v)) (Da.cons (dv 5 (d := u)) Da.nil))) (hR tv (allT u (List.mem_of_getElem? hu1))))) ?_
          show hB s v u = Option.isSome (if hB s v u = true then some u else none)
          cases hB s v u <;> rfl
        · obtain ⟨u, hu1, rfl⟩ := ones_at hb
          rw [hu1] at he
          have he : (if hB s v u = true then some u else none) = some e := he
          have eu : u = e := by
            split at he
            · exact Option.some.inj he
            · cases he
          exact De.cast (dv 5 (d := u)) eu
        · rw [ones_len, range_bind, filt_map]
      · rw [hsome, eqv_self wf repT]
        rfl
    · exact Dr.ret (De.cast (De.eq hu (De.call FO (hr.mono (by omega)) (Da.cons (dv 0 (d := s.enc)) (Da.cons (dv 2 (d := .list ls)) Da.nil)) ⟨s, ls, rfl, sg.good, lT, by omega, lso, rfl⟩) (dv 2 (d := .list ls)) (list_shaped wf h5 lT) (list_shaped wf h5 lT)) (by rw [eqv_self wf lT]))
end
end LB
end
section
set_option autoImplicit false
set_option Elab.async false
set_option linter.all false
set_option maxRecDepth 100000
set_option maxHeartbeats 4000000
/-! Walks: the law's check of places. -/
namespace LB
open PySem PySem.Spec PySem.W PyProof.Rows L2 LamX
theorem good_lane {a : S} (g : Good (.lane a)) : Good a where
  wf := g.wf
  dp := by have := g.dp; have := d_l (a := a); omega
  sm := by have := g.sm; simp only [subsS, List.length_cons] at this; omega
  rw := by
    have h := g.rw
    simp only [subsS, List.map_cons, List.filterMap_cons] at h
    cases e : gRow (S.lane a).enc with
    | none => rw [e] at h; exact h
    | some x => rw [e] at h; simp only [List.length_cons] at h; omega
  cm := fun p hp => g.cm p (List.mem_cons_of_mem _ hp)
theorem good_heap {a : S} (g : Good (.heap a)) : Good a where
  wf := g.wf
  dp := by have := g.dp; have := d_h (a := a); omega
  sm := by have := g.sm; simp only [subsS, List.length_cons] at this; omega
  rw := by
    have h := g.rw
    simp only [subsS, List.map_cons, List.filterMap_cons] at h
    cases e : gRow (S.heap a).enc with
    | none => rw [e] at h; exact h
    | some x => rw [e] at h; simp only [List.length_cons] at h; omega
  cm := fun p hp => g.cm p (List.mem_cons_of_mem _ hp)
def intsD (ps : List Nat) : List PyData := ps.map fun p => .int (p : Nat)
theorem intsD_T {ps : List Nat} (h : ∀ p ∈ ps, p ≤ 3) : ∀ d ∈ intsD ps, LB.T .count d := fun d hd => by
  obtain ⟨p, hp, rfl⟩ := List.mem_map.mp hd
  exact ⟨p, h p hp, rfl⟩
theorem ints_sorted {ps : List Nat} (h : ∀ p ∈ ps, p ≤ 3) (up : Up ps) {ds : List PyData} (pm : ds.Perm (intsD ps)) (pw : ds.Pairwise fun x y => dataLt y x = false) : ds = intsD ps := by
  have ht := intsD_T h
  have tds : ∀ d ∈ ds, LB.T .count d := fun d hd => ht d (pm.mem_iff.mp hd)
  refine sorted_lkey (a := .count) ht (List.Perm.refl _) ?_ pm ?_
  · unfold intsD
    rw [List.pairwise_map]
    refine List.Pairwise.imp_of_mem (fun {x y} hx hy l => ?_) up
    show dataLt (keyV .count _) (keyV .count _) = false
    rw [key_same (s := .count) ⟨y, h y hy, rfl⟩ ⟨x, h x hx, rfl⟩]
    show dataLt (.int (y : Nat)) (.int (x : Nat)) = false
    have ne : ((y : Nat) : Int) ≠ ((x : Nat) : Int) := by omega
    have z := sep_lt (x := .int (y : Nat)) (y := .int (x : Nat)) (b := decide (((y : Nat) : Int) < ((x : Nat) : Int))) (by rw [toks_int, toks_int]; exact Sep.ints ne [] [])
    rw [z]
    exact decide_eq_false (by omega)
  · refine List.Pairwise.imp_of_mem (fun {x y} hx hy l => ?_) pw
    obtain ⟨m, _, rfl⟩ := tds x hx
    obtain ⟨n, _, rfl⟩ := tds y hy
    exact l
section
variable {P : Program} {w : World} {K : PySem.W.Frag} {mg : Str → Option Value} {base : Heap} {T : List (Addr × Str)} {f : Addr} {fd : FuncData}
abbrev sPR : Stmt := top 61
abbrev nPR : List Str := ["_law_sort", "_law_values", "_law_v", "_law_u", "_law_found", "_law_fit", "_law_k"]
theorem sc_pr : FnScope nPR ["_law_sort", "_law_values"] (defScope sPR) := ⟨rfl, rfl, rfl, by decide +kernel, rfl, by decide +kernel, by decide +kernel⟩
theorem w_pr (F : Fun K "_law_places_right" "_law_places_right" sPR f fd) (hm : mg "_law_places_right" = some (.ref f)) (hb : Binds K fd ["_law_sort", "_law_values"] []) (G : Gb w mg K) (FH : Fd P w K mg base T 36 "holds" (RS2 (fun _ => true) holdsD)) (FP : Fd P w K mg base T 35 "places" (RS2 isRow placesD)) :
    Fd P w K mg base T 37 "_law_places_right" (RChk isRow) := by
  refine Fd.mk (m := 5) F hm hb sc_pr (fun ds d ⟨_, _, e, _⟩ => by rw [e]; rfl) fun cdv A outer sh H E ds d hr ⟨s, vs, e1, sg, hrow, hv, few, e2⟩ => ?_
  subst e1 e2
  have hfr := G.fr
  let X : Cx := (cxOf CX0 P w K mg base nPR "_law_places_right" (defScope sPR) f cdv A outer sh H E).nox
  have hu : X.A.units + 64 < cLine := hr.units
  have wf := sg.good.wf
  have h5 := sg.good.dp
  have hR : ∀ {v u : PyData}, LB.T s v → LB.T s u → RS2 (fun _ => true) holdsD [s.enc, v, u] (.bool (hB s v u)) := fun tv tu => ⟨s, _, _, rfl, sg.good, rfl, tv, tu, rfl⟩
  have pR : ∀ {v u : PyData}, LB.T s v → LB.T s u → RS2 isRow placesD [s.enc, v, u] (plD (placesM s v u)) := fun tv tu => ⟨s, _, _, rfl, sg.good, hrow, tv, tu, rfl⟩
  -- what is asked of one pair, of the elements' sort
  have inner : ∀ (a : S) (k : Str) (v u : PyData) (xv xu : List PyData) (ps : List Nat), v = .tuple xv → u = .tuple xu → s.enc = .tuple [.str k, a.enc] → kindS s = k → Good a → (∀ x ∈ xv, LB.T a x) → (∀ x ∈ xu, LB.T a x) → xv.length ≤ 3 → xu.length ≤ 3 → ps.Nodup → (k = kLane → Up ps) → (k = kLane ∨ k = kHeap) → Emb (Hd a) xv xu ps →
      ∃ δ2, Dn X T [some s.enc, some (.list vs), some v, some u, some (.tuple (intsD ps)), none, none] (ifBody ((forBody ((forBody ((defBody sPR).getD 0 (.Pass ⟨0, 0, 0, 0⟩))).getD 0 (.Pass ⟨0, 0, 0, 0⟩))).getD 2 (.Pass ⟨0, 0, 0, 0⟩))) δ2 ∧ Sub [some s.enc, some (.list vs), some v, some u, none, none, none] δ2 := by
    intro a k v u xv xu ps ev eu es hk ga tv tu l3 l3u nd up kk emb
    subst ev eu
    have in_ := emb_lt emb
    have p3 : ∀ p ∈ ps, p ≤ 3 := fun p hp => by have := in_ p hp; omega
    have lps := emb.1
    have lD : (intsD ps).length = ps.length := List.length_map ..
    have eI : intsD ps = (ps.map fun p => ((p : Nat) : Int)).map .int := by
      unfold intsD
      rw [List.map_map]
      rfl
    have ndI : (ps.map fun p => ((p : Nat) : Int)).Nodup := nodup_map_of (fun x y h => by omega) nd
    refine ⟨[some s.enc, some (.list vs), some (.tuple xv), some (.tuple xu), some (.tuple (intsD ps)), some (.list (xu.map fun _ => .bool true)), none], Dn.cons (Dn1.ofS (i := 5) (δ := [some s.enc, some (.list vs), some (.tuple xv), some (.tuple xu), some (.tuple (intsD ps)), none, none]) ?_ (by show 5 < 7; decide)) (Dn.cons (Dn1.ifF (Dt.w (Dw.orF ?_ (Dw.or1 (Dt.not (b := true) (Dt.val (De.allT (ds := xu.map fun _ => .bool true) hfr rfl (dv 5) fun d hd => ?_))))))) (Dn.cons (Dn1.ifF (Dt.w ?_)) Dn.nil)), Sub.tl (Sub.tl (Sub.tl (Sub.tl (Sub.no (Sub.no (Sub.tl Sub.ni))))))⟩
    · refine Ds.lcm (es := xu.map fun _ => .bool true) rfl sc_pr.nd (src_r (i := 6) (m := xu.length) hfr (De.len hfr (dv 3 (d := .tuple xu))) (by omega) (fun _ _ _ _ _ => pg_name sc_pr.nd rfl (Or.inl rfl))) ?_ ?_ (fun j b e hb he s2 H2 C cl fp => ?_) (blkOk_by (N := nPR) (sc := defScope sPR) (own := [("_law_k", 6)]) (by decide +kernel)) (sw_true rfl rfl rfl rfl)
      · rw [ones_len, upto_len, List.length_map]
      · rw [ones_len, upto_len]
        omega
      · obtain ⟨d, hd, rfl⟩ := ones_at hb
        have jl : j < xu.length := by
          have := (List.getElem?_eq_some_iff.mp hd).1
          rw [upto_len] at this
          exact this
        rw [upto_at jl] at hd
        cases hd
        rw [List.getElem?_map, List.getElem?_eq_getElem jl] at he
        cases he
        have jp : j < ps.length := by omega
        obtain ⟨x, hx, hh⟩ := emb.2 j ps[j] xu[j] (List.getElem?_eq_getElem jp) (List.getElem?_eq_getElem jl)
        refine De.cast (De.call FH hr (Da.cons (De.ixT (k := 1) (d := a.enc) (De.cast (dv 0 (d := s.enc)) es) De.int rfl) (Da.cons (De.ixT (k := ps[j]) (d := x) (dv 2 (d := .tuple xv)) (De.ixT (k := j) (d := .int ((ps[j] : Nat) : Int)) (dv 4 (d := .tuple (intsD ps))) (dv 6 (d := .int (j : Nat))) ?_) hx) (Da.cons (De.ixT (k := j) (d := xu[j]) (dv 3 (d := .tuple xu)) (dv 6 (d := .int (j : Nat))) (List.getElem?_eq_getElem jl)) Da.nil))) ⟨a, x, xu[j], rfl, ga, rfl, tv x (List.mem_of_getElem? hx), tu _ (List.getElem_mem jl), rfl⟩) (congrArg PyData.bool (hB_iff.mpr hh))
        unfold intsD
        rw [List.getElem?_map, List.getElem?_eq_getElem jp]
        rfl
    · refine Dt.cast (Dt.neI (De.lenSetI (ns := ps.map fun p => ((p : Nat) : Int)) hfr rfl (De.cast (dv 4 (d := .tuple (intsD ps))) (by rw [eI])) ndI (by rw [List.length_map]; omega)) (De.len hfr (dv 3 (d := .tuple xu)))) ?_
      rw [List.length_map, lps, decide_eq_true rfl]
      rfl
    · obtain ⟨_, _, rfl⟩ := List.mem_map.mp hd
      rfl
    · rcases kk with rfl | rfl
      · refine Dw.andT (Dt.kindIs (k := kLane) (s := s) (dv 0 (d := s.enc)) hk) (Dw.and1 (Dt.cast (Dt.ne hu (De.listOf hfr (dv 4 (d := .tuple (intsD ps)))) (De.sortedT (res := intsD ps) hfr hu (.inl (dv 4 (d := .tuple (intsD ps)))) (T_ord (s := .count) True.intro (by decide) (intsD_T p3)) (by omega) fun ds' pm pw => ints_sorted p3 (up rfl) pm pw) (list_shaped (s := .count) True.intro (by decide) (intsD_T p3)) (list_shaped (s := .count) True.intro (by decide) (intsD_T p3))) ?_))
        rw [eqv_self (s := .count) True.intro (intsD_T p3)]
        rfl
      · exact Dw.andF (Dt.kindIs (k := kHeap) (s := s) (dv 0 (d := s.enc)) hk)
  have parts : ∀ v u : PyData, LB.T s v → LB.T s u → (placesM s v u).isSome = hB s v u ∧ ∀ ps, placesM s v u = some ps → ∃ (a : S) (k : Str) (xv xu : List PyData), v = .tuple xv ∧ u = .tuple xu ∧ s.enc = .tuple [.str k, a.enc] ∧ kindS s = k ∧ Good a ∧ (∀ x ∈ xv, LB.T a x) ∧ (∀ x ∈ xu, LB.T a x) ∧ xv.length ≤ 3 ∧ xu.length ≤ 3 ∧ ps.Nodup ∧ (k = kLane → Up ps) ∧ (k = kLane ∨ k = kHeap) ∧ Emb (Hd a) xv xu ps := by
    intro v u tv tu
    have gd := sg.good
    clear inner hR pR hv wf h5 sg
    cases s with
    | lane a =>
      obtain ⟨xv, rfl, l3, tv⟩ := tv
      obtain ⟨xu, rfl, l3u, tu⟩ := tu
      obtain ⟨q1, q2⟩ := places_lane (a := a) (vs := xv) (us := xu) l3 l3u
      refine ⟨q1, fun ps e => ?_⟩
      obtain ⟨up, emb⟩ := q2 ps e
      exact ⟨a, kLane, xv, xu, rfl, rfl, rfl, rfl, good_lane gd, tv, tu, l3, l3u, up.nodup, fun _ => up, .inl rfl, emb⟩
    | heap a =>
      obtain ⟨xv, rfl, l3, tv, _⟩ := tv
      obtain ⟨xu, rfl, l3u, tu, _⟩ := tu
      obtain ⟨_, q1, q2⟩ := places_heap (a := a) (vs := xv) (us := xu) l3 l3u
      refine ⟨q1, fun ps e => ?_⟩
      obtain ⟨nd, emb⟩ := q2 ps e
      exact ⟨a, kHeap, xv, xu, rfl, rfl, rfl, rfl, good_heap gd, tv, tu, l3, l3u, nd, fun z => absurd z (by decide +kernel), .inr rfl, emb⟩
    | _ => cases hrow
  refine Dr.next (δ₁ := [some s.enc, some (.list vs), none, none, none, none, none]) (Dn1.forL (i := 2) PassesOwn.never rfl (dv 1 (d := .list vs)) (fun v hvm => ?_) rfl (pg_name sc_pr.nd rfl (Or.inr rfl))) (Dr.ret De.bl)
  have tv := hv v hvm
  refine ⟨[some s.enc, some (.list vs), some v, none, none, none, none], Dn.cons (Dn1.forL (i := 3) PassesOwn.never rfl (dv 1 (d := .list vs)) (fun u hum => ?_) rfl (pg_name sc_pr.nd rfl (Or.inr rfl))) Dn.nil, Sub.tl (Sub.tl (Sub.no (Sub.tl (Sub.tl (Sub.tl (Sub.tl Sub.ni))))))⟩
  have tu := hv u hum
  obtain ⟨q1, q2⟩ := parts v u tv tu
  have t1 : (!decide ((!LB.isN (plD (placesM s v u))) = hB s v u)) = false := by
    rw [isN_pl, q1, decide_eq_true rfl]
    rfl
  cases hp : placesM s v u with
  | none =>
    refine ⟨[some s.enc, some (.list vs), some v, some u, some .none, none, none], Dn.cons (Dn1.set (i := 4) sc_pr.nd (De.cast (De.call FP (hr.mono (by omega)) (Da.cons (dv 0 (d := s.enc)) (Da.cons (dv 2 (d := v)) (Da.cons (dv 3 (d := u)) Da.nil))) (pR tv tu)) (by rw [hp]; rfl))) (Dn.cons (Dn1.ifF (Dt.cast (Dt.neB (De.notN (dv 4 (d := .none))) (De.call FH hr (Da.cons (dv 0 (d := s.enc)) (Da.cons (dv 2 (d := v)) (Da.cons (dv 3 (d := u)) Da.nil))) (hR tv tu))) (by rw [hp] at t1; exact t1))) (Dn.cons (Dn1.ifF (Dt.notN (dv 4 (d := .none)))) Dn.nil)), Sub.tl (Sub.tl (Sub.tl (Sub.no (Sub.no (Sub.tl (Sub.tl Sub.ni))))))⟩
  | some ps =>
    obtain ⟨a, k, xv, xu, e1, e2, e3, e4, ga, x1, x2, x3, x4, nd, up, kk, emb⟩ := q2 ps hp
    obtain ⟨δ2, dn, sub⟩ := inner a k v u xv xu ps e1 e2 e3 e4 ga x1 x2 x3 x4 nd up kk emb
    exact ⟨δ2, Dn.cons (Dn1.set (i := 4) sc_pr.nd (De.cast (De.call FP (hr.mono (by omega)) (Da.cons (dv 0 (d := s.enc)) (Da.cons (dv 2 (d := v)) (Da.cons (dv 3 (d := u)) Da.nil))) (pR tv tu)) (by rw [hp]; rfl))) (Dn.cons (Dn1.ifF (Dt.cast (Dt.neB (De.notN (dv 4 (d := .tuple (intsD ps)))) (De.call FH hr (Da.cons (dv 0 (d := s.enc)) (Da.cons (dv 2 (d := v)) (Da.cons (dv 3 (d := u)) Da.nil))) (hR tv tu))) (by rw [hp] at t1; exact t1))) (Dn.cons (Dn1.ifT (Dt.notN (dv 4 (d := .tuple (intsD ps)))) dn) Dn.nil)), fun i d h => sub i d ((show Sub [some s.enc, some (.list vs), some v, none, none, none, none] [some s.enc, some (.list vs), some v, some u, none, none, none] from Sub.tl (Sub.tl (Sub.tl (Sub.no (Sub.tl (Sub.tl (Sub.tl Sub.ni))))))) i d h)⟩
end
end LB
end
section
set_option autoImplicit false
set_option Elab.async false
set_option linter.all false
set_option maxRecDepth 100000
set_option maxHeartbeats 4000000
/-! A list of ours that is made, handed to a def, and made longer. -/
namespace LB
open PySem PySem.Spec PySem.W PyProof.Rows L2 LamX
theorem cut_hidL {H : Hp} {as : List Addr} : cutH (fun b => b ∉ as) H = hidL H as := by
  funext b
  by_cases c : b ∈ as
  · rw [cut_out (fun z => z c), hidL_in c]
  · rw [cut_in c, hidL_out c]
theorem cutOk_hidL {P : Program} {w : World} {H : Hp} {as : List Addr} (mv : ∀ a ∈ as, ∃ o, H a = some o ∧ Mv o) : CutOk P w (fun b => b ∉ as) H where
  kept := fun hp ok b u e => by
    rw [cut_hidL] at e ⊢
    refine (ok b u (hidL_sub e)).stay (fun _ _ _ q => q) (fun c q => ?_) fun c xs q => ?_
    · by_cases cd : c ∈ as
      · obtain ⟨o, ho, m⟩ := mv c cd
        rw [ho] at q
        have q := Option.some.inj q
        subst q
        exact False.elim m
      · rw [hidL_out cd]
        exact q
    · by_cases cd : c ∈ as
      · obtain ⟨o, ho, m⟩ := mv c cd
        rw [ho] at q
        have q := Option.some.inj q
        subst q
        exact False.elim m
      · rw [hidL_out cd]
        exact q
  rest := fun hp h' H' ok _ st b u e nb => by
    obtain ⟨o, ho, m⟩ := mv b (Classical.byContradiction nb)
    rw [ho] at e
    cases e
    obtain ⟨ob, e1, _, back⟩ := mv_obj m (ok b _ ho)
    exact back _ _ (st b _ ob ho nb e1)
/-- the promise with some things set aside -/
def spHidL (sp : Sp) : Sp := fun vs H Q E => ∃ as : List Addr, (∀ a ∈ as, ∃ o, H a = some o ∧ Mv o) ∧ sp vs (hidL H as) (fun v H1 => ∀ H2, hidL H2 as = H1 → Backs as H H2 → Q v H2) E
theorem FnOk.hidL {P : Program} {w : World} {K : PySem.W.Frag} {mg : Str → Option Value} {base : Heap} {k : Nat} {f : Addr} {fd : FuncData} {ps : List Str} {sp : Sp} (mono : ∀ vs H (Q Q' : VK) E, (∀ v H1, Q v H1 → Q' v H1) → sp vs H Q E → sp vs H Q' E) (F : FnOk P w K mg base CX0 k f fd ps sp) : FnOk P w K mg base CX0 k f fd ps (spHidL sp) :=
  FnOk.cut F fun vs H Q E ⟨as, mv, s⟩ => ⟨fun b => b ∉ as, cutOk_hidL mv, by
    rw [cut_hidL]
    refine mono _ _ _ _ _ (fun v H1 q gone => ?_) s
    have g2 : ∀ b ∈ as, H1 b = none := fun b hb => by
      obtain ⟨o, ho, _⟩ := mv b hb
      exact gone b o ho fun z => z hb
    refine q _ (funext fun b => ?_) fun b hb => ?_
    · by_cases c : b ∈ as
      · rw [hidL_in c, g2 b c]
      · rw [hidL_out c, join_in c]
    · obtain ⟨o, ho, _⟩ := mv b hb
      rw [join_old (fun z => z hb) ho, ho]⟩
theorem spN_mono {T : List (Addr × Str)} {K : PySem.W.Frag} {Pre : List PyData → Prop} {R : List PyData → PyData → Prop} : ∀ vs H (Q Q' : VK) E, (∀ v H1, Q v H1 → Q' v H1) → spN T K Pre R vs H Q E → spN T K Pre R vs H Q' E :=
  fun vs H Q Q' E i ⟨ds, a, b, c, q⟩ => ⟨ds, a, b, c, fun d v H' r g dv => i _ _ (q d v H' r g dv)⟩
section
variable {X : Cx} {T : List (Addr × Str)} {F : Sa} {δ : List (Option PyData)} {σ : L2.St} {H : Hp} {E : Ends} {e elt iter : Expr} {rest : List Stmt} {P : PyData → Prop} {i j l : Nat} {x y z g : Str} {px py pz pg pos q p1 p2 p3 : Pos} {scope : Scope}
/-- y = [..], the list kept apart -/
theorem ss_lc {PL : List PyData → Prop} {PE : List PyData → Nat → PyData → Prop} (ok : SaOk F) (hc : X.calm = true) (hN : X.N.Nodup) (S : JSrc X T F δ (.Name x px) iter PL) (few : ∀ ds, PL ds → ds.length ≤ 1000) (n : i ∉ F.sl.map (·.1))
    (helt : ∀ ds, PL ds → ∀ k d, ds[k]? = some d → JElt X T F scope ((wipeD δ [i]).set i (some d)) elt (PE ds k)) (J : Jst X T F δ σ H)
    (k : ∀ D acc ds rs H' B, PL ds → rs.length = ds.length → (∀ k r, rs[k]? = some r → PE ds k r) → D ∉ F.as → H' D = some (.lst acc) → Gw T (hidL H F.as) B → B D = none → F.C (hid H' D) → DpAll X.K (hidL (hid H' D) F.as) acc rs → Gw T B (hidL (hid H' D) F.as) → ssT X rest E (σ.set j (some (.ref D))) H')
    (bk : BlkOk X.N X.env.scope scope [(x, i)]) (hg : PgOk X scope (.Name x px) (gName i)) (hx : X.N[i]? = some x := by rfl) (hy : X.N[j]? = some y := by rfl) (hyl : Loc X.env.scope y := by first | exact Or.inl rfl | exact Or.inr rfl)
    (hsw : swapsWith (.ListComp elt [⟨.Name x px, iter, [], 0⟩] scope pos) (some (.Name y py)) q.line X.env = pure false := by rfl) (hf : X.fn y = true ∨ X.env.scope.names.lookup y = some .local := by first | exact .inl rfl | exact .inr rfl) :
    ssT X (.Assign [.Name y py] (.ListComp elt [⟨.Name x px, iter, [], 0⟩] scope pos) q :: rest) E σ H := fun pins s I => by
  obtain ⟨wi, hi, hs, S⟩ := S
  refine (pss_cons (ps_set (X := X) hN hy hyl (pe_lc (te := bvT X scope elt) (tt := tYes) hc hN hi bk hg (fun _ _ _ _ _ => pts_nil) (fun s H C cl fp => ⟨fun pins s1 σ H1 Q J h => h s H C cl fp pins s1 J⟩) hs) hsw hf) pss_ev).run pins s σ H E I ?_
  show tLc wi (gName i) tYes (bvT X scope elt) [i] σ H fun v H1 => ssT X rest E (σ.set j (some v)) H1
  exact (jlc_go ok S few (List.getElem?_eq_some_iff.mp hx).1 n helt J fun D acc ds rs H' B pl lr pe nD hacc gB nB c da g => k D acc ds rs H' B pl lr pe nD hacc gB nB c da g)
/-- y = g(x, z[0]), with things set aside -/
theorem ss_call2 {k : Nat} {u : Nat} {Pre : List PyData → Prop} {R : List PyData → PyData → Prop} {ds : List PyData} {a b : V} {D : Addr} {xs : List V} {as : List Addr} (hN : X.N.Nodup) (FD : FdN X.prog X.w X.K X.mg X.base T k g Pre R) (hr : Room k X.A) (h1 : σ[i]? = some (some a)) (h2 : σ[l]? = some (some (.ref D))) (hD : H D = some (.lst (b :: xs)))
    (mv : ∀ a ∈ as, ∃ o, H a = some o ∧ Mv o) (dv : DpAll X.K (hidL H as) [a, b] ds) (t : Tabs T (hidL H as)) (hp : Pre ds)
    (q1 : ∀ d v H', R ds d → Backs as H H' → Gw T (hidL H as) (hidL H' as) → Dp X.K (hidL H' as) v d → ssT X rest E (σ.set j (some v)) H')
    (hx : X.N[i]? = some x := by rfl) (hvx : Vis X.env.scope x := by first | exact Or.inl rfl | exact Or.inr (Or.inl rfl) | exact Or.inr (Or.inr rfl)) (hx1 : (x == ("__debug__" : Str)) = false := by decide) (hx2 : (x == ("__classdict__" : Str)) = false := by decide)
    (hz : X.N[l]? = some z := by rfl) (hvz : Vis X.env.scope z := by first | exact Or.inl rfl | exact Or.inr (Or.inl rfl) | exact Or.inr (Or.inr rfl)) (hz1 : (z == ("__debug__" : Str)) = false := by decide) (hz2 : (z == ("__classdict__" : Str)) = false := by decide)
    (hy : X.N[j]? = some y := by rfl) (hyl : Loc X.env.scope y := by first | exact Or.inl rfl | exact Or.inr rfl) (hg : Gl X g := by rfl) (hdb : (g == ("__debug__" : Str)) = false := by decide)
    (hsw : swapsWith (.Call (.Name g pg) [.Name x px, .Subscript (.Name z pz) (.Constant (.int 0) u p1) p2] [] pos) (some (.Name y py)) q.line X.env = pure false := by rfl) (hf : X.fn y = true ∨ X.env.scope.names.lookup y = some .local := by first | exact .inl rfl | exact .inr rfl) :
    ssT X (.Assign [.Name y py] (.Call (.Name g pg) [.Name x px, .Subscript (.Name z pz) (.Constant (.int 0) u p1) p2] [] pos) q :: rest) E σ H := fun pins s I => by
  obtain ⟨f, fd, ps, hm, hk, hb, FD⟩ := FD
  refine (pss_cons (ps_set (X := X) hN hy hyl (pe_call (FnOk.hidL spN_mono FD) hr hg hm hk hb .nil (pass0 (X := X)) (pa_cons (pe_var hx hvx hx1 hx2) (pa_cons (pe_ix ix_list (pe_var hz hvz hz1 hz2) pe_int (by intro _ _; rfl)) pa_nil)) hdb rfl rfl) hsw hf) pss_ev).run pins s σ H E I ?_
  refine ⟨a, h1, .ref D, h2, D, b :: xs, 0, b, rfl, rfl, SqL.of hD, (show atI (b :: xs) ((0 : Nat) : Int) = some b from atI_nat rfl), as, mv, ds, dv, t, hp, fun d v H1 r g1 dd H2 e1 bk => ?_⟩
  subst e1
  exact q1 d v H2 r bk g1 dd
/-- y.append(e), y's list kept apart -/
theorem ss_app {D : Addr} {acc : List V} (ok : SaOk F) (h : Je X T F δ e P) (hD : H D = some (.lst acc)) (nD : D ∉ F.as) (J : Jst X T F δ σ (hid H D)) (few : acc.length < 1000) (hσ : σ[i]? = some (some (.ref D)))
    (k : ∀ u d H', P d → F.C (hid H' D) → Gw T (hidL (hid H D) F.as) (hidL (hid H' D) F.as) → Dp X.K (hidL (hid H' D) F.as) u d → ssT X rest E σ (upd H' D (.lst (acc ++ [u]))))
    (hi : X.N[i]? = some x := by rfl) (hv : Vis X.env.scope x := by first | exact Or.inl rfl | exact Or.inr (Or.inl rfl) | exact Or.inr (Or.inr rfl))
    (h1 : (x == ("__debug__" : Str)) = false := by decide) (h2 : (x == ("__classdict__" : Str)) = false := by decide)
    (hbase : attributeBase (.Name x p1) "append" X.env (eval (.Name x p1) X.env) = eval (.Name x p1) X.env := by rfl)
    (hfew : ((backTo p3 (starEach (e :: []) X.env)).all (fun x => !x.1) && (backToKw p3 (keywordEach [] X.env)).all (fun x => x.1.isSome)
      && decide ((e :: []).length + ([] : List Keyword).length + (if ([] : List Keyword).isEmpty then 0 else 1) < 30)) = true := by rfl)
    (hline : (p2.endLine == p3.line) = true := by rfl) (hs : starEach (e :: []) X.env = (false, eval e X.env) :: starEach [] X.env := by rfl) (hplain : (backTo p3 (starEach [] X.env)).any (·.1) = false := by rfl)
    (hsw : swapsWith (.Call (.Attribute (.Name x p1) "append" p2) [e] [] p3) none pos.line X.env = pure false := by rfl) : ssT X (.Expr (.Call (.Attribute (.Name x p1) "append" p2) [e] [] p3) pos :: rest) E σ H := fun pins s I => by
  refine (pss_cons (ps_expr (X := X) (pe_bm PySem.F.plainAttrs_list PySem.F.slot_list_append PySem.F.type_list_append mt_append (pe_var hi hv h1 h2) (pa_cons pe_ev pa_nil hs) hbase hfew hline hs hplain) hsw) pss_ev).run pins s σ H E I ?_
  refine ⟨_, hσ, .inl ⟨rfl, acc, SqL.of hD⟩, evT.mono (Je.hid1 ok h hD True.intro nD J) fun v H1 ⟨h3, c, g1, d, pd, dv⟩ => ⟨D, acc, v, rfl, rfl, h3, ?_, k v d H1 pd c g1 dv⟩⟩
  rw [sizeLine_eq]
  omega
end
/-- a list that was kept apart, taken in again -/
theorem Jst.unhid {X : Cx} {T : List (Addr × Str)} {F : Sa} {δ : List (Option PyData)} {σ : L2.St} {H : Hp} {D : Addr} {acc : List V} {rs : List PyData} {j : Nat} (ok : SaOk F) (J : Jst X T F δ σ (hid H D)) (hD : H D = some (.lst acc)) (nD : D ∉ F.as) (hσ : σ[j]? = some (some (.ref D))) (n : j ∉ F.sl.map (·.1)) (da : DpAll X.K (hidL (hid H D) F.as) acc rs) :
    Jst X T F (δ.set j (some (.list rs))) σ H ∧ Gw T (hidL (hid H D) F.as) (hidL H F.as) := by
  have e1 : hidL (hid H D) F.as = hid (hidL H F.as) D := hidL_hid
  have hD2 : hidL H F.as D = some (.lst acc) := by rw [hidL_out nD]; exact hD
  have up : Gw T (hidL (hid H D) F.as) (hidL H F.as) := by
    rw [e1]
    exact Gw.unM (Gw.refl (by rw [← e1]; exact J.t)) hD2 True.intro
  have c : F.C H := ok.st _ _ J.c (fun a ha => (hid_ne fun z => nD (by rw [← z]; exact ha)).symm)
  have es : σ.set j (some (.ref D)) = σ := by
    refine List.ext_getElem? fun i => ?_
    by_cases q : j = i
    · subst q
      rw [List.getElem?_set_self (List.getElem?_eq_some_iff.mp hσ).1, hσ]
    · rw [List.getElem?_set_ne q]
  have z := (J.gw c up).put (j := j) (v := .ref D) (d := .list rs) (List.getElem?_eq_some_iff.mp hσ).1 n (.lst (SqL.of hD2) (DpAll.gw up _ _ da))
  rw [es] at z
  exact ⟨z, up⟩
end LB
end
section
set_option autoImplicit false
set_option Elab.async false
set_option linter.all false
set_option maxRecDepth 100000
set_option maxHeartbeats 4000000
/-! Walks: the law. -/
namespace LB
open PySem PySem.Spec PySem.W PyProof.Rows L2 LamX
theorem Jst.put0 {X : Cx} {T : List (Addr × Str)} {F : Sa} {δ : List (Option PyData)} {σ : L2.St} {H : Hp} {j : Nat} {v : Option V} (J : Jst X T F δ σ H) (n : j ∉ F.sl.map (·.1)) (hn : δ[j]? = some none) : Jst X T F δ (σ.set j v) H :=
  ⟨by rw [List.length_set]; exact J.len, fun p hp => by rw [List.getElem?_set_ne fun z => n (by rw [z]; exact List.mem_map.mpr ⟨p, hp, rfl⟩)]; exact J.sl p hp, J.c, fun i d h => by
    by_cases q : j = i
    · subst q
      rw [hn] at h
      cases h
    · rw [List.getElem?_set_ne q]
      exact J.ds i d h, J.t⟩
/-- the law's promise -/
def spLaw (T : List (Addr × Str)) (K : PySem.W.Frag) : Sp := fun vs H Q _ => ∃ (a : Addr) (ns : List Int), vs = [.ref a] ∧ SqL K H a (ns.map V.int) ∧ ns.length ≤ 1000 ∧ Tabs T H ∧ ∀ H', Q (.bl true) H'
section
variable {P : Program} {w : World} {K : PySem.W.Frag} {mg : Str → Option Value} {base : Heap} {T : List (Addr × Str)} {f : Addr} {fd : FuncData}
abbrev sLaw : Stmt := top 62
abbrev nLaw : List Str := ["_law_script", "_law_source", "_law_lap", "_law_sort", "_law_values", "_law_beneath_here", "_law_v", "_law_turn", "_law_u"]
theorem sc_law : FnScope nLaw ["_law_script"] (defScope sLaw) := ⟨rfl, rfl, rfl, by decide +kernel, rfl, by decide +kernel, by decide +kernel⟩
abbrev lapB : List Stmt := forBody ((defBody sLaw).getD 1 (.Pass ⟨0, 0, 0, 0⟩))
theorem w_law {fo : Addr} {fdo : FuncData} (F : Fun K "law" "law" sLaw f fd) (G : Gb w mg K)
    (FO : FnOk P w K mg base CX0 1 fo fdo ["_law_script"] (spOpen T K)) (hmO : mg "_law_open_cells" = some (.ref fo)) (hkO : PySem.W.keepIn K (.ref fo) = true) (hbO : Binds K fdo ["_law_script"] [])
    (FP : FdS P w K mg base T 1 "_law_pick" PrePick RPick) (FDS : FdS P w K mg base T 2 "_law_draw_sort" (fun ds => ds = []) RDS) (FDV : FdS P w K mg base T 21 "_law_draw_value" (PreDV 5) RDV) (FB : FdN P w K mg base T 25 "_law_beneath" (PreBen 5) RBen)
    (FOR : Fd P w K mg base T 37 "_law_orders_right" (RChk fun _ => true)) (FLR : Fd P w K mg base T 37 "_law_least_right" (RChk fun _ => true)) (FPR : Fd P w K mg base T 37 "_law_places_right" (RChk isRow))
    (FH : Fd P w K mg base T 36 "holds" (RS2 (fun _ => true) holdsD)) (FRD : Fd P w K mg base T 21 "ordered" ROrd) : FnOk P w K mg base CX0 38 f fd ["_law_script"] (spLaw T K) := by
  refine F.ok sc_law (fun vs H Q E ⟨_, _, e, _⟩ => by rw [e]; rfl) fun cdv A outer sh H vs Q E hr ⟨a, ns, e, hs, few, t, q⟩ => ?_
  subst e
  have hfr := G.fr
  let X : Cx := (cxOf CX0 P w K mg base nLaw "law" (defScope sLaw) f cdv A outer sh H E).nox
  have hu : X.A.units + 64 < cLine := hr.units
  have hu5 : X.A.units + 65 < cLine := by have := hr.un; show (A.deeper _).units + 65 < cLine; omega
  refine ⟨_, pss_cons (ps_set (i := 1) sc_law.nd rfl (Or.inr rfl) (pe_call FO (hr.mono (by omega)) rfl hmO hkO hbO .nil (pass0 (X := X)) (pa_cons (pv 0) pa_nil))) pss_ev, ?_⟩
  refine ⟨.ref a, rfl, a, ns, rfl, hs, few, t, fun D C H1 ne hsrc hn g1 => ?_⟩
  have ok := srcF_ok (D := D) (C := C) (i := 1) ne
  have nsl : ∀ {j : Nat}, j ≠ 1 → j ∉ (srcF D C 1).sl.map (·.1) := fun h z => h (List.mem_singleton.mp z)
  let δ0 : List (Option PyData) := [none, none, none, none, none, none, none, none, none]
  have J0 : Jst X T (srcF D C 1) δ0 [some (.ref a), some (.ref D), none, none, none, none, none, none, none] H1 := ⟨rfl, fun p hp => by rw [List.mem_singleton.mp hp]; rfl, hsrc, (fun i d h => by
    match i, h with
    | 0, h => cases h
    | 1, h => cases h
    | 2, h => cases h
    | 3, h => cases h
    | 4, h => cases h
    | 5, h => cases h
    | 6, h => cases h
    | 7, h => cases h
    | 8, h => cases h
    | i + 9, h => cases h), g1.2⟩
  -- the checks of one lap
  have checks : ∀ (z : PyData) (s : S) (v0 : PyData) (vs res : List PyData), SG s → (∀ v ∈ v0 :: vs, LB.T s v) → (v0 :: vs).length ≤ 10 → BenOk s v0 res → res.length ≤ 125 →
      Js X T (srcF D C 1) [none, none, some z, some s.enc, some (.list (v0 :: vs)), some (.list res), none, none, none] (lapB.drop 4) (fun δ1 => δ1 = [none, none, some z, some s.enc, some (.list (v0 :: vs)), some (.list res), none, none, none]) := by
    intro z s v0 vs res sg hv few ben lB
    have wf := sg.good.wf
    have h5 := sg.good.dp
    have t0 : LB.T s v0 := hv v0 List.mem_cons_self
    have hR : ∀ {u : PyData}, LB.T s u → RS2 (fun _ => true) holdsD [s.enc, v0, u] (.bool (hB s v0 u)) := fun tu => ⟨s, _, _, rfl, sg.good, rfl, t0, tu, rfl⟩
    have rT : ∀ u ∈ res, LB.T s u := fun u hu => ((ben.mem u).mp hu).1
    refine Js.cons (Js1.ifF (P := fun δ1 => δ1 = [none, none, some z, some s.enc, some (.list (v0 :: vs)), some (.list res), none, none, none]) (Jt.of ok (Dt.w (Dw.orF (Dt.not (b := true) (Dt.val (De.call FOR hr (Da.cons (dv 3 (d := s.enc)) (Da.cons (dv 4 (d := .list (v0 :: vs))) Da.nil)) ⟨s, v0 :: vs, rfl, sg, rfl, hv, few, rfl⟩))) (Dw.or1 (Dt.not (b := true) (Dt.val (De.call FLR hr (Da.cons (dv 3 (d := s.enc)) (Da.cons (dv 4 (d := .list (v0 :: vs))) Da.nil)) ⟨s, v0 :: vs, rfl, sg, rfl, hv, few, rfl⟩))))))) rfl) fun δ1 e1 => ?_
    subst e1
    refine Js.cons (Js1.ifF (P := fun δ1 => δ1 = [none, none, some z, some s.enc, some (.list (v0 :: vs)), some (.list res), none, none, none]) (Jt.of ok (Dt.w ?row)) rfl) fun δ1 e1 => ?_
    case row =>
      by_cases hrow : isRow s = true
      · refine Dw.andT (Dt.kindRow (k := kindS s) (s := s) (dv 3 (d := s.enc)) rfl ?_) (Dw.and1 (Dt.not (b := true) (Dt.val (De.call FPR hr (Da.cons (dv 3 (d := s.enc)) (Da.cons (dv 4 (d := .list (v0 :: vs))) Da.nil)) ⟨s, v0 :: vs, rfl, sg, hrow, hv, few, rfl⟩))))
        cases s with
        | lane _ => show inS kLane ["lane", "heap"] = true; decide +kernel
        | heap _ => show inS kHeap ["lane", "heap"] = true; decide +kernel
        | _ => cases hrow
      · refine Dw.andF (Dt.kindRow (k := kindS s) (s := s) (dv 3 (d := s.enc)) rfl ?_)
        cases s with
        | lane _ => exact absurd rfl hrow
        | heap _ => exact absurd rfl hrow
        | mark _ => show inS kMark ["lane", "heap"] = false; decide +kernel
        | count => show inS kCount ["lane", "heap"] = false; decide +kernel
        | both _ _ => show inS kBoth ["lane", "heap"] = false; decide +kernel
        | either _ _ => show inS kEither ["lane", "heap"] = false; decide +kernel
    subst e1
    refine Js.cons (Js1.ifF (P := fun δ1 => δ1 = [none, none, some z, some s.enc, some (.list (v0 :: vs)), some (.list res), none, none, none]) (Jt.of ok (Dt.w (Dw.orF (Dt.not (b := true) (Dt.val (De.allT (ds := res.map fun u => .bool (hB s v0 u)) hfr rfl (De.lcm rfl sc_law.nd (src_l (i := 8) (dv 5 (d := .list res)) (fun _ _ _ _ _ => pg_name sc_law.nd rfl (Or.inl rfl))) ?l1 ?l2 (fun j b e hb he s2 H2 C2 cl fp => ?elt) (blkOk_by (N := nLaw) (sc := defScope sLaw) (own := [("_law_u", 8)]) (by decide +kernel))) ?all)))
      (Dw.or1 (Dt.cast (Dt.ne hu (De.call FRD (hr.mono (by omega)) (Da.cons (dv 3 (d := s.enc)) (Da.cons (dv 5 (d := .list res)) Da.nil)) ⟨s, res, rfl, sg.good, rT, by omega, ben.ord, rfl⟩) (dv 5 (d := .list res)) (list_shaped wf h5 rT) (list_shaped wf h5 rT)) (by rw [eqv_self wf rT]; rfl)))))) rfl) fun δ1 e1 => ?_
    case l1 => rw [ones_len, List.length_map]
    case l2 => rw [ones_len]; omega
    case elt =>
      obtain ⟨u, hu1, rfl⟩ := ones_at hb
      rw [List.getElem?_map, hu1] at he
      cases he
      exact De.call FH (hr.mono (by omega)) (Da.cons (dv 3 (d := s.enc)) (Da.cons (De.ixL (k := 0) (d := v0) (dv 4 (d := .list (v0 :: vs))) De.int rfl) (Da.cons (dv 8 (d := u)) Da.nil))) (hR (rT u (List.mem_of_getElem? hu1)))
    case all =>
      intro d hd
      obtain ⟨u, hu1, rfl⟩ := List.mem_map.mp hd
      rw [hB_iff.mpr ((ben.mem u).mp hu1).2]
    subst e1
    refine Js.cons (Js1.for_ (i := 6) (PL := fun L => L = v0 :: vs) (Q := fun δ1 => δ1 = [none, none, some z, some s.enc, some (.list (v0 :: vs)), some (.list res), none, none, none]) PassesOwn.never rfl ok (jsrc_l (Je.of ok (dv 4 (d := .list (v0 :: vs))) ⟨_, rfl, rfl⟩)) (fun _ _ δ1 => δ1 = [none, none, some z, some s.enc, some (.list (v0 :: vs)), some (.list res), none, none, none]) (fun _ _ => rfl) (fun L eL k d δ1 hk e1 => ?_) (fun L δ1 _ h => h) (nsl (by decide)) (hg := pg_name sc_law.nd rfl (Or.inl rfl))) fun δ1 e1 => Js.nil e1
    subst eL e1
    have td : LB.T s d := hv d (List.mem_of_getElem? hk)
    refine Js.weak (Q := fun δ1 => δ1 = [none, none, some z, some s.enc, some (.list (v0 :: vs)), some (.list res), some d, none, none]) (Js.cons (Js1.ifF (P := fun δ1 => δ1 = [none, none, some z, some s.enc, some (.list (v0 :: vs)), some (.list res), some d, none, none]) (Jt.of ok (Dt.cast (Dt.neB (De.call FH (hr.mono (by omega)) (Da.cons (dv 3 (d := s.enc)) (Da.cons (De.ixL (k := 0) (d := v0) (dv 4 (d := .list (v0 :: vs))) De.int rfl) (Da.cons (dv 6 (d := d)) Da.nil))) (hR td)) (De.inD hu5 (dv 6 (d := d)) (dv 5 (d := .list res)) (T_shaped wf h5 td) (list_shaped wf h5 rT))) ?eq)) rfl) fun δ1 e1 => Js.nil e1) fun δ1 e1 => ⟨_, rfl, by rw [e1]; exact Sub.tl (Sub.tl (Sub.tl (Sub.tl (Sub.tl (Sub.tl (Sub.no (Sub.tl (Sub.tl Sub.ni))))))))⟩
    have e : hB s v0 d = res.any fun u => PyData.eqv u d := by
      rw [Bool.eq_iff_iff, hB_iff, List.any_eq_true]
      constructor
      · intro h
        exact ⟨d, (ben.mem d).mpr ⟨td, h⟩, (T_eqv wf td td).mpr rfl⟩
      · rintro ⟨u, hu1, hu2⟩
        rw [← (T_eqv wf (rT u hu1) td).mp hu2]
        exact ((ben.mem u).mp hu1).2
    rw [e, decide_eq_true rfl]
    rfl
  have jr : Jr X T (srcF D C 1) δ0 ((defBody sLaw).drop 1) (fun d => d = .bool true) := by
    refine Jr.next (Q := fun δ1 => δ1 = δ0) (Js1.for_ (i := 2) (PL := fun _ => True) (Q := fun δ1 => δ1 = δ0) PassesOwn.never rfl ok (jsrc_r (PM := fun m => m = 6) hfr (Je.of ok De.int ⟨6, rfl, rfl⟩) (fun m e => by omega) (fun m _ => True.intro)) (fun _ _ δ1 => δ1 = δ0) (fun _ _ => rfl) (fun L _ k z δ1 hk e1 => ?lap) (fun L δ1 _ h => h) (nsl (by decide)) (hg := pg_name sc_law.nd rfl (Or.inl rfl))) fun δ1 e1 => ?_
    · subst e1
      show Js X T (srcF D C 1) [none, none, some z, none, none, none, none, none, none] _ _
      refine Js.cons (Q := fun δ1 => ∃ s : S, SG s ∧ δ1 = [none, none, some z, some s.enc, none, none, none, none, none]) (Js1.set (j := 3) (P := fun d => ∃ s : S, SG s ∧ d = s.enc) sc_law.nd (Je.callS (i := 1) (ds := []) ne FDS (hr.mono (by omega)) Da.nil rfl fun d r => r) (fun d ⟨s, sg, e⟩ => ⟨s, sg, by rw [e]; rfl⟩) (nsl (by decide))) fun δ1 ⟨s, sg, e1⟩ => ?_
      subst e1
      have wf := sg.good.wf
      have h5 := sg.good.dp
      intro σ H2 E2 J2 q2
      refine ss_lc (i := 7) (j := 4) (PL := fun L => L.length = 4) (PE := fun _ _ r => DV 3 s r) ok rfl sc_law.nd (jsrc_r (PM := fun m => m = 4) hfr (Je.of ok De.int ⟨4, rfl, rfl⟩) (fun m e => by omega) (fun m e => by rw [upto_len]; exact e)) (fun L h => by omega) (nsl (by decide)) (fun L hL k d2 hd s2 H2' C2 cl fp => ?helt) J2 (fun D' acc L rs H3 B hL lr pe nD hacc gB nB c3 da g3 => ?k) (blkOk_by (N := nLaw) (sc := defScope sLaw) (own := [("_law_turn", 7)]) (by decide +kernel)) (fun _ _ _ _ _ => pg_name sc_law.nd rfl (Or.inl rfl))
      case helt => exact Je.callS (i := 1) (ds := [s.enc, .int (3 : Nat)]) ne FDV (hr.mono (by omega)) (Da.cons (dv 3 (d := s.enc)) (Da.cons De.int Da.nil)) ⟨s, 3, rfl, by omega, wf, h5, h5⟩ fun d r => r s 3 rfl
      case k =>
        have lrs : rs.length = 4 := by omega
        cases da with
        | nil => cases lrs
        | @cons y0 acc' v0 rs' d0 da' =>
        have hvs : ∀ v ∈ v0 :: rs', DV 3 s v := fun v hv => by
          obtain ⟨k, hk⟩ := List.getElem?_of_mem hv
          exact pe k v hk
        have dv0 := hvs v0 List.mem_cons_self
        have t0 : LB.T s v0 := DV.t s 3 v0 (by omega) dv0
        have c0 : LB.cap s v0 ≤ 125 := Nat.le_trans (DV.cap s 3 v0 dv0) sg.cap
        have dall : DpAll X.K (hidL (hid H3 D') [D, C]) (y0 :: acc') (v0 :: rs') := .cons d0 da'
        have J3 : Jst X T (srcF D C 1) [none, none, some z, some s.enc, none, none, none, none, none] (σ.set 4 (some (.ref D'))) (hid H3 D') := ((J2.gw c3 (gB.trans g3)) : Jst X T (srcF D C 1) _ σ (hid H3 D')).put0 (nsl (by decide)) rfl
        have h4 : (σ.set 4 (some (.ref D')))[4]? = some (some (V.ref D')) := List.getElem?_set_self (by rw [J2.len]; show 4 < 9; decide)
        obtain ⟨v3, h3, d3⟩ := J3.ds 3 s.enc rfl
        have e3 : hidL H3 [D', D, C] = hidL (hid H3 D') [D, C] := hidL_hid.symm
        have mv : ∀ a ∈ [D', D, C], ∃ o, H3 a = some o ∧ Mv o := fun a ha => by
          rcases List.mem_cons.mp ha with h | h
          · rw [h]
            exact ⟨_, hacc, True.intro⟩
          · obtain ⟨o, ho, m⟩ := ok.mv _ c3 a h
            exact ⟨o, (hid_some ho).1, m⟩
        refine ss_call2 (i := 3) (l := 4) (j := 5) (ds := [s.enc, v0]) (as := [D', D, C]) sc_law.nd FB (hr.mono (by omega)) h3 h4 hacc mv (by rw [e3]; exact .cons d3 (.cons d0 .nil)) (by rw [e3]; exact J3.t) ⟨s, v0, rfl, wf, t0, h5, h5, c0⟩ fun dr vr H4 r bk g4 dd => ?_
        obtain ⟨res, rfl, ben⟩ := r s v0 rfl
        have e4 : hidL H4 [D', D, C] = hidL (hid H4 D') [D, C] := hidL_hid.symm
        rw [e3, e4] at g4
        rw [e4] at dd
        have hacc4 : H4 D' = some (.lst (y0 :: acc')) := (bk D' List.mem_cons_self).trans hacc
        have c4 : (srcF D C 1).C (hid H4 D') := ok.st _ _ c3 fun a ha => by
          have na : a ≠ D' := fun e => nD (e ▸ ha)
          rw [hid_ne na, hid_ne na]
          exact bk a (List.mem_cons_of_mem _ ha)
        have J4 : Jst X T (srcF D C 1) [none, none, some z, some s.enc, none, some (.list res), none, none, none] ((σ.set 4 (some (.ref D'))).set 5 (some vr)) (hid H4 D') := (J3.gw c4 g4).put (j := 5) (by rw [J3.len]; show 5 < 9; decide) (nsl (by decide)) dd
        have h44 : ((σ.set 4 (some (.ref D'))).set 5 (some vr))[4]? = some (some (V.ref D')) := by
          rw [List.getElem?_set_ne (by decide)]
          exact h4
        have l1 : 1 ≤ res.length := List.length_pos_of_mem ((ben.mem v0).mpr ⟨t0, hd_refl s v0 t0⟩)
        have l2 : res.length ≤ 125 := Nat.le_trans ben.len c0
        have lacc : (y0 :: acc').length = 4 := by rw [dpAll_len dall]; exact lrs
        refine ss_app (i := 4) (P := fun d => d ∈ res) ok (Je.ixL (ds := res) ok (dv 5 (d := .list res)) (Je.callS (i := 1) (ds := [.int (res.length : Nat)]) ne FP (hr.mono (by omega)) (Da.cons (De.lenL hfr (dv 5 (d := .list res))) Da.nil) ⟨res.length, rfl, l1, by omega⟩ fun d r => pick_of r) (fun k d hk => List.mem_of_getElem? hk)) hacc4 nD J4 (by rw [lacc]; decide) h44 fun u d5 H5 hd5 c5 g5 dd5 => ?_
        have eh : hid (upd H5 D' (.lst ((y0 :: acc') ++ [u]))) D' = hid H5 D' := hid_upd
        have J5 : Jst X T (srcF D C 1) [none, none, some z, some s.enc, none, some (.list res), none, none, none] ((σ.set 4 (some (.ref D'))).set 5 (some vr)) (hid (upd H5 D' (.lst ((y0 :: acc') ++ [u]))) D') := by
          rw [eh]
          exact J4.gw c5 g5
        obtain ⟨J6, g6⟩ := J5.unhid ok upd_same nD h44 (nsl (by decide)) (rs := (v0 :: rs') ++ [d5]) (by rw [eh]; exact dpAll_snoc (DpAll.gw (g4.trans g5) _ _ dall) dd5)
        rw [eh] at g6
        have gg : Gw T (hidL H2 [D, C]) (hidL (upd H5 D' (.lst ((y0 :: acc') ++ [u]))) [D, C]) := gB.trans (g3.trans (g4.trans (g5.trans g6)))
        have lv : ((v0 :: rs') ++ [d5]).length ≤ 10 := by rw [List.length_append, lrs]; show 4 + 1 ≤ 10; decide
        have tv : ∀ v ∈ (v0 :: rs') ++ [d5], LB.T s v := fun v hv => by
          rcases List.mem_append.mp hv with h | h
          · exact DV.t s 3 v (by omega) (hvs v h)
          · rw [List.mem_singleton.mp h]
            exact ((ben.mem d5).mp hd5).1
        exact checks z s v0 (rs' ++ [d5]) res sg tv lv ben l2 _ _ E2 J6 fun δ1 σ1 H7 e1 J7 g7 => q2 δ0 σ1 H7 rfl (J7.weak (by rw [e1]; exact Sub.tl (Sub.tl (Sub.no (Sub.no (Sub.no (Sub.no (Sub.tl (Sub.tl (Sub.tl Sub.ni)))))))))) (gg.trans g7)
    · subst e1
      exact Jr.ret (Je.of ok De.bl rfl)
  exact jr _ _ _ J0 fun d v H' e _ _ dd => by
    subst e
    cases dd
    exact q H'
end
end LB
end
section
set_option autoImplicit false
set_option Elab.async false
set_option linter.all false
set_option maxRecDepth 100000
set_option maxHeartbeats 4000000
/-! The law's promise over any heap. -/
namespace LB
open PySem PySem.Spec PySem.W PyProof.Rows L2 LamX
def Pn : HO → Prop
  | .lst _ => True
  | .tbl _ => True
  | .frz _ (.lst _) => True
  | _ => False
def kap (H : Hp) (b : Addr) : Prop := ∃ o, H b = some o ∧ Pn o
theorem cutOk_kap {P : Program} {w : World} {H : Hp} : CutOk P w (kap H) H where
  kept := fun h ok b u e => by
    by_cases c : kap H b
    · rw [cut_in c] at e
      obtain ⟨o, h1, h2⟩ := c
      rw [h1] at e
      cases e
      have x := ok b u h1
      cases u with
      | lst xs => exact x
      | tbl ps => exact x
      | frz ob v =>
        cases v with
        | lst xs => exact x
        | _ => exact h2.elim
      | _ => exact h2.elim
    · rw [cut_out c] at e
      cases e
  rest := fun h h' H' ok same st b o e nb => by
    refine (ok b o e).stay (fun c u hc q => ?_) (fun c q => same c _ q ?_) fun c xs q => same c _ q ?_
    · rcases hc with rfl | hc
      · exact st c o u e nb q
      · exact st c _ u hc (fun ⟨o2, h1, h2⟩ => by rw [hc] at h1; cases h1; exact h2) q
    · rintro ⟨o2, h1, h2⟩
      rw [q] at h1
      cases h1
      exact h2
    · rintro ⟨o2, h1, h2⟩
      rw [q] at h1
      cases h1
      exact h2
/-- .. whatever else is known -/
def spEnd (T : List (Addr × Str)) (K : PySem.W.Frag) : Sp := fun vs H Q _ => ∃ (a : Addr) (ns : List Int), vs = [.ref a] ∧ SqL K H a (ns.map V.int) ∧ ns.length ≤ 1000 ∧ (∀ p ∈ T, H p.1 = some (.tbl #[])) ∧ ∀ H', Q (.bl true) H'
theorem law_end {P : Program} {w : World} {K : PySem.W.Frag} {mg : Str → Option Value} {base : Heap} {T : List (Addr × Str)} {k : Nat} {f : Addr} {fd : FuncData} {ps : List Str} (F : FnOk P w K mg base CX0 k f fd ps (spLaw T K)) : FnOk P w K mg base CX0 k f fd ps (spEnd T K) :=
  FnOk.cut F fun vs H Q E ⟨a, ns, e, hs, few, ht, q⟩ => ⟨kap H, cutOk_kap, a, ns, e, by
    rcases hs with (h | ⟨o, h⟩) | h
    · exact .inl (.inl ((cut_in ⟨_, h, True.intro⟩).trans h))
    · exact .inl (.inr ⟨o, (cut_in ⟨_, h, True.intro⟩).trans h⟩)
    · exact .inr h, few, ⟨fun p hp => ⟨#[], (cut_in ⟨_, ht p hp, True.intro⟩).trans (ht p hp), True.intro, fun pos cv hc => by cases hc⟩, fun b o h => by
      by_cases c : kap H b
      · rw [cut_in c] at h
        obtain ⟨o2, h1, h2⟩ := c
        rw [h] at h1
        cases h1
        cases o with
        | frz ob v =>
          cases v with
          | lst xs => exact True.intro
          | _ => exact h2.elim
        | tup xs => exact h2.elim
        | _ => exact True.intro
      · rw [cut_out c] at h
        cases h⟩, fun H' _ => q _⟩
end LB
end
section
set_option autoImplicit false
set_option Elab.async false
set_option linter.all false
set_option maxRecDepth 100000
set_option maxHeartbeats 0
/-! The head: what the top leaves, read by names. -/
namespace LB
open PySem PySem.W PySem.Calls PyProof.Rows
abbrev RR : OpenRow := OpenLaw.row PySem.Challenge.rw_lossbars_k08_whole_holding_is_an_order
abbrev qv0 : Program := view RR.prog [62]
def names1 : List PySem.Str := ["__name__", "LossError", "BadSort", "BadValue", "LETTERS", "MOST_LETTERS", "MOST_MARKS", "MOST_TUPLES", "MOST_DEEP", "MOST_ROWS", "MOST_COMPONENTS", "PARTS", "is_word", "are_letters", "has_form", "parts_of", "bad_path", "all_within", "depth", "raw_components", "is_small", "check_sort", "MOST_NUMBER", "MOST_ELEMENTS", "SIDES", "is_number", "is_pair", "is_side", "bad_place"]
def names2 : List PySem.Str := ["bad_among", "value_key", "sorted_values", "is_formed", "is_value", "bad_form", "need_value", "ordered", "rising_places", "freed", "can_be_placed", "unlike_places", "raw_places", "raw_holds", "holds", "places", "raw_least", "least_values", "raw_size", "size", "_law_open_cells", "_law_pick", "_law_key", "_law_formed", "_law_beneath", "_law_draw_sort", "_law_draw_value", "_law_orders_right", "_law_least_right", "_law_places_right"]
def names : List PySem.Str := names1 ++ names2
def dD (x : Str) (i : Nat) : He.DefD := ⟨(x, none), x, x, L2.defArgs (top i), L2.defBody (top i), L2.defScope (top i), [], []⟩
def fnA : List He.DefD := [dD "is_word" 13, dD "are_letters" 14, dD "has_form" 15, dD "parts_of" 16, dD "bad_path" 17, dD "all_within" 18, dD "depth" 19, dD "raw_components" 20, dD "is_small" 21, dD "check_sort" 22, dD "is_number" 27, dD "is_pair" 28, dD "is_side" 29, dD "bad_place" 30, dD "bad_among" 31, dD "value_key" 32, dD "sorted_values" 33, dD "is_formed" 34, dD "is_value" 35, dD "bad_form" 36, dD "need_value" 37, dD "ordered" 38]
def fnB : List He.DefD := [dD "rising_places" 39, dD "freed" 40, dD "can_be_placed" 41, dD "unlike_places" 42, dD "raw_places" 43, dD "raw_holds" 44, dD "holds" 45, dD "places" 46, dD "raw_least" 47, dD "least_values" 48, dD "raw_size" 49, dD "size" 50, dD "_law_open_cells" 52, dD "_law_pick" 53, dD "_law_key" 54, dD "_law_formed" 55, dD "_law_beneath" 56, dD "_law_draw_sort" 57, dD "_law_draw_value" 58, dD "_law_orders_right" 59, dD "_law_least_right" 60, dD "_law_places_right" 61, dD "law" 62]
def fn : List He.DefD := fnA ++ fnB
def faA : List He.Fa := [.glo "is_word", .glo "are_letters", .glo "has_form", .glo "parts_of", .glo "bad_path", .glo "all_within", .glo "depth", .glo "raw_components", .glo "is_small", .glo "check_sort", .glo "is_number", .glo "is_pair", .glo "is_side", .glo "bad_place", .glo "bad_among", .glo "value_key", .glo "sorted_values", .glo "is_formed", .glo "is_value", .glo "bad_form", .glo "need_value", .glo "ordered"]
def faB : List He.Fa := [.glo "rising_places", .glo "freed", .glo "can_be_placed", .glo "unlike_places", .glo "raw_places", .glo "raw_holds", .glo "holds", .glo "places", .glo "raw_least", .glo "least_values", .glo "raw_size", .glo "size", .glo "_law_open_cells", .glo "_law_pick", .glo "_law_key", .glo "_law_formed", .glo "_law_beneath", .glo "_law_draw_sort", .glo "_law_draw_value", .glo "_law_orders_right", .glo "_law_least_right", .glo "_law_places_right", .glo "law"]
def faC : List He.Fa := [.glo "PARTS", .glo "SIDES", .str "LETTERS" letters26, .int "MOST_LETTERS" 8, .int "MOST_MARKS" 3, .int "MOST_TUPLES" 11, .int "MOST_DEEP" 5, .int "MOST_ROWS" 4, .int "MOST_COMPONENTS" 27, .int "MOST_NUMBER" 99, .int "MOST_ELEMENTS" 8, .free "len", .free "isinstance", .free "all", .free "any", .free "set", .free "enumerate", .free "max", .free "sum", .free "tuple", .free "list", .free "sorted", .free "range", .free "min", .free "int", .free "abs", .free "str", .free "bool"]
def fa : List He.Fa := faA ++ (faB ++ faC)
def ts : List He.Tab := [(fun K => He.ga K "PARTS", ["both", "either", "lane", "heap"])]
def tf : List He.Defn := [("sorted_values", none), ("_law_formed", none), ("_law_beneath", none)]
def ktB (K : PySem.W.Frag) : Bool := K.all fun q => match q.2 with
  | ⟨.type c, some _, _, _⟩ => !decide (c = "tuple")
  | _ => true
def tb (K : PySem.W.Frag) (x : Str) : Addr := (He.cT K (x, none)).2
def ex (K : PySem.W.Frag) : Bool := He.valsB K (He.ga K "PARTS") [("both", .int 2), ("either", .int 2), ("lane", .int 1), ("heap", .int 1)] && (He.tupB K "SIDES" [.str "left", .str "right"] && (ktB K && ((!decide (tb K "sorted_values" = tb K "_law_formed") && (!decide (tb K "sorted_values" = tb K "_law_beneath") && !decide (tb K "_law_formed" = tb K "_law_beneath"))) && (!decide (mainGlobals = tb K "sorted_values") && (!decide (mainGlobals = tb K "_law_formed") && !decide (mainGlobals = tb K "_law_beneath"))))))
abbrev hkX : PySem.W.Hook := He.hookX 4 fa fn ts tf ex
def obK (s : PySem.W.SharedT) : He.AlX := He.obsX 4 fa fn ts tf ex (HandSHeadRun.getT s)
theorem ob_eq (s : PySem.W.SharedT) : obK s = hkX.obs s.abs := He.obsX_eq (HandSHeadRun.getT_eq s)
theorem runf (w : World) : HandSHeadRun.RunEq RR qv0 hkX obK 6000 names (w.withFollow "special-get-raises" false) := by
  intro os
  kernel_rfl
theorem runt (w : World) : HandSHeadRun.RunEq RR qv0 hkX obK 6000 names (w.withFollow "special-get-raises" true) := by
  intro os
  kernel_rfl
theorem runX (w : World) : HandSHeadRun.RunEq RR qv0 hkX obK 6000 names w :=
  byRow2 "special-get-raises" (P := fun w => HandSHeadRun.RunEq RR qv0 hkX obK 6000 names w) runf runt w
end LB
end
set_option autoImplicit false
set_option Elab.async false
set_option linter.all false
set_option maxRecDepth 100000
set_option maxHeartbeats 4000000
/-! All walks over the head's facts; the statement. -/
namespace LB
open PySem PySem.Spec PySem.W PyProof.Rows L2 LamX
theorem fun_of {K : PySem.W.Frag} {x : Str} {st : Stmt} {f : Addr} {fd : FuncData} (F : FunD K x x (defArgs st) (defBody st) (defScope st) [] [] f fd) : Fun K x x st f fd := by
  obtain ⟨⟨oc, od, dV, kV, doc, pm, an, cdv, ct, osl, e, lk, hcd, hD, hK⟩, kp⟩ := F
  rcases hD with ⟨_, rfl⟩ | ⟨z, _⟩
  · exact ⟨⟨oc, od, kV, doc, pm, an, cdv, ct, osl, e, lk, hcd⟩, kp⟩
  · exact absurd rfl z
theorem funC_of {K : PySem.W.Frag} {x : Str} {st : Stmt} {fd : FuncData} (F : Fun K x x st (He.ga K x) fd) : FunC K x st (He.ga K x) fd (He.cT K (x, none)).1 := by
  obtain ⟨⟨oc, od, kV, doc, pm, an, cdv, ct, osl, e, lk, hcd⟩, kp⟩ := F
  obtain ⟨c, rfl⟩ := He.codeIn_ref hcd
  have ec : (He.cT K (x, none)).1 = c := He.codeOf_eq (p := (x, none)) lk (by rw [e])
  rw [ec]
  exact ⟨⟨oc, od, kV, doc, pm, an, ct, osl, e, lk, hcd⟩, kp⟩
theorem kt_of {K : PySem.W.Frag} (h : ktB K = true) : KT K := fun a o lk ct => by
  have z := List.all_eq_true.mp h _ (He.lookup_mem lk)
  obtain ⟨oc, od, dt, osl⟩ := o
  simp only at ct
  subst ct
  cases od with
  | none => rfl
  | some d => cases z
theorem gb_of {w : World} {K : PySem.W.Frag} {h : Heap} {mg : Str → Option Value} (X : K.In h) (G : h.Ns mainGlobals mg) (c : He.SaysX fa fn ts tf ex w h K) : Gb w mg K := by
  have cd := c.t.d
  obtain ⟨e1, e2⟩ := He.ba c.more
  obtain ⟨e3, e4⟩ := He.ba e2
  obtain ⟨e5, _⟩ := He.ba e4
  have it : ∀ {x : Str} {i : Int}, (He.Fa.int x i).ok K = true → GCm mg K x (.int i) := fun h => by
    obtain ⟨t, e⟩ := He.int_ok X G h
    exact ⟨.int _, _, e, ⟨t, rfl⟩, fun H => .int _⟩
  obtain ⟨es, n, D⟩ := c.t.tab 0 (t := (fun K => He.ga K "PARTS", ["both", "either", "lane", "heap"])) rfl
  have pv : ∀ (k : Str) (i : Int), ((k, He.Dv.int i) : Str × He.Dv) ∈ ([("both", .int 2), ("either", .int 2), ("lane", .int 1), ("heap", .int 1)] : List (Str × He.Dv)) → ∃ t, PySem.W.nsIn K (He.ga K "PARTS") k = some (some (.int i t)) := fun k i hk => by
    obtain ⟨u, hu, ru⟩ := He.valsB_ok e1 hk
    obtain ⟨t, rfl⟩ := ru
    exact ⟨t, hu⟩
  refine ⟨fun x hx => ?fr, kt_of e5, ?le, it (cd.fact 48 (f := .int "MOST_LETTERS" 8) rfl), it (cd.fact 49 (f := .int "MOST_MARKS" 3) rfl), it (cd.fact 50 (f := .int "MOST_TUPLES" 11) rfl), it (cd.fact 51 (f := .int "MOST_DEEP" 5) rfl), it (cd.fact 52 (f := .int "MOST_ROWS" 4) rfl), it (cd.fact 53 (f := .int "MOST_COMPONENTS" 27) rfl), it (cd.fact 54 (f := .int "MOST_NUMBER" 99) rfl), it (cd.fact 55 (f := .int "MOST_ELEMENTS" 8) rfl), ⟨.ref (He.ga K "SIDES"), .ref (He.ga K "SIDES"), He.glo_ok X G (cd.fact 46 (f := .glo "SIDES") rfl), rfl, fun H => .tup (He.tupB_ok e3 H) (.cons (.str _) (.cons (.str _) .nil))⟩,
    He.ga K "PARTS", es, n, He.glo_ok X G (cd.fact 45 (f := .glo "PARTS") rfl), D, pv _ _ (by simp), pv _ _ (by simp), pv _ _ (by simp), pv _ _ (by simp)⟩
  case le =>
    obtain ⟨t, e⟩ := He.str_ok X G (cd.fact 47 (f := .str "LETTERS" letters26) rfl)
    exact ⟨.str _, _, e, ⟨t, rfl⟩, fun H => .str _⟩
  case fr =>
    have hx' : He.Fa.free x ∈ fa := by
      have : He.Fa.free x ∈ (["len", "isinstance", "all", "any", "set", "enumerate", "max", "sum", "tuple", "list", "sorted", "range", "min", "int", "abs", "str", "bool"] : List Str).map He.Fa.free := List.mem_map.mpr ⟨x, hx, rfl⟩
      exact List.mem_append_right faA (List.mem_append_right faB (show He.Fa.free x ∈ ([.glo "PARTS", .glo "SIDES", .str "LETTERS" letters26, .int "MOST_LETTERS" 8, .int "MOST_MARKS" 3, .int "MOST_TUPLES" 11, .int "MOST_DEEP" 5, .int "MOST_ROWS" 4, .int "MOST_COMPONENTS" 27, .int "MOST_NUMBER" 99, .int "MOST_ELEMENTS" 8] : List He.Fa) ++ _ from List.mem_append_right _ this))
    exact He.free_ok X G (cd.facts hx')
def tT (K : PySem.W.Frag) : List (Addr × Str) := [(tb K "sorted_values", lamN "sorted_values"), (tb K "_law_formed", lamN "_law_formed"), (tb K "_law_beneath", lamN "_law_beneath")]
theorem all_of {P : Program} {w : World} {K : PySem.W.Frag} {h : Heap} {mg : Str → Option Value} (X : K.In h) (G : h.Ns mainGlobals mg) (c : He.SaysX fa fn ts tf ex w h K) :
    ∃ fd, Fun K "law" "law" (top 62) (He.ga K "law") fd ∧ mg "law" = some (.ref (He.ga K "law")) ∧ ∀ base : Heap, (∀ p ∈ tf.map (He.cT K), TabB base mg p.1 p.2) → FnOk P w K mg base CX0 38 (He.ga K "law") fd ["_law_script"] (spEnd (tT K) K) := by
  have cd := c.t.d
  have GB := gb_of X G c
  obtain ⟨e1, e2⟩ := He.ba c.more
  obtain ⟨e3, e4⟩ := He.ba e2
  obtain ⟨e5, e6⟩ := He.ba e4
  obtain ⟨e7, _⟩ := He.ba e6
  obtain ⟨n12, e8⟩ := He.ba e7
  obtain ⟨n13, n23⟩ := He.ba e8
  have ne : ∀ {a b : Addr}, (!decide (a = b)) = true → a ≠ b := fun h z => by rw [decide_eq_true z] at h; cases h
  have n12 := ne n12
  have n13 := ne n13
  have n23 := ne n23
  obtain ⟨fd13, F13⟩ := cd.def_ 0 (d := dD "is_word" 13) rfl
  have F13 : Fun K "is_word" "is_word" (top 13) (He.ga K "is_word") fd13 := fun_of F13
  have m13 : mg "is_word" = some (.ref (He.ga K "is_word")) := He.glo_ok X G (cd.fact 0 (f := .glo "is_word") rfl)
  have b13 : Binds K fd13 ["value"] [] := F13.binds fun _ _ _ _ _ _ us hl => match us, hl with | [_], _ => rfl
  obtain ⟨fd14, F14⟩ := cd.def_ 1 (d := dD "are_letters" 14) rfl
  have F14 : Fun K "are_letters" "are_letters" (top 14) (He.ga K "are_letters") fd14 := fun_of F14
  have m14 : mg "are_letters" = some (.ref (He.ga K "are_letters")) := He.glo_ok X G (cd.fact 1 (f := .glo "are_letters") rfl)
  have b14 : Binds K fd14 ["value"] [] := F14.binds fun _ _ _ _ _ _ us hl => match us, hl with | [_], _ => rfl
  obtain ⟨fd15, F15⟩ := cd.def_ 2 (d := dD "has_form" 15) rfl
  have F15 : Fun K "has_form" "has_form" (top 15) (He.ga K "has_form") fd15 := fun_of F15
  have m15 : mg "has_form" = some (.ref (He.ga K "has_form")) := He.glo_ok X G (cd.fact 2 (f := .glo "has_form") rfl)
  have b15 : Binds K fd15 ["value"] [] := F15.binds fun _ _ _ _ _ _ us hl => match us, hl with | [_], _ => rfl
  obtain ⟨fd16, F16⟩ := cd.def_ 3 (d := dD "parts_of" 16) rfl
  have F16 : Fun K "parts_of" "parts_of" (top 16) (He.ga K "parts_of") fd16 := fun_of F16
  have m16 : mg "parts_of" = some (.ref (He.ga K "parts_of")) := He.glo_ok X G (cd.fact 3 (f := .glo "parts_of") rfl)
  have b16 : Binds K fd16 ["sort"] [] := F16.binds fun _ _ _ _ _ _ us hl => match us, hl with | [_], _ => rfl
  obtain ⟨fd17, F17⟩ := cd.def_ 4 (d := dD "bad_path" 17) rfl
  have F17 : Fun K "bad_path" "bad_path" (top 17) (He.ga K "bad_path") fd17 := fun_of F17
  have m17 : mg "bad_path" = some (.ref (He.ga K "bad_path")) := He.glo_ok X G (cd.fact 4 (f := .glo "bad_path") rfl)
  have b17 : Binds K fd17 ["value"] [] := F17.binds fun _ _ _ _ _ _ us hl => match us, hl with | [_], _ => rfl
  obtain ⟨fd18, F18⟩ := cd.def_ 5 (d := dD "all_within" 18) rfl
  have F18 : Fun K "all_within" "all_within" (top 18) (He.ga K "all_within") fd18 := fun_of F18
  have m18 : mg "all_within" = some (.ref (He.ga K "all_within")) := He.glo_ok X G (cd.fact 5 (f := .glo "all_within") rfl)
  have b18 : Binds K fd18 ["sort"] [] := F18.binds fun _ _ _ _ _ _ us hl => match us, hl with | [_], _ => rfl
  obtain ⟨fd19, F19⟩ := cd.def_ 6 (d := dD "depth" 19) rfl
  have F19 : Fun K "depth" "depth" (top 19) (He.ga K "depth") fd19 := fun_of F19
  have m19 : mg "depth" = some (.ref (He.ga K "depth")) := He.glo_ok X G (cd.fact 6 (f := .glo "depth") rfl)
  have b19 : Binds K fd19 ["sort"] [] := F19.binds fun _ _ _ _ _ _ us hl => match us, hl with | [_], _ => rfl
  obtain ⟨fd20, F20⟩ := cd.def_ 7 (d := dD "raw_components" 20) rfl
  have F20 : Fun K "raw_components" "raw_components" (top 20) (He.ga K "raw_components") fd20 := fun_of F20
  have m20 : mg "raw_components" = some (.ref (He.ga K "raw_components")) := He.glo_ok X G (cd.fact 7 (f := .glo "raw_components") rfl)
  have b20 : Binds K fd20 ["sort"] [] := F20.binds fun _ _ _ _ _ _ us hl => match us, hl with | [_], _ => rfl
  obtain ⟨fd21, F21⟩ := cd.def_ 8 (d := dD "is_small" 21) rfl
  have F21 : Fun K "is_small" "is_small" (top 21) (He.ga K "is_small") fd21 := fun_of F21
  have m21 : mg "is_small" = some (.ref (He.ga K "is_small")) := He.glo_ok X G (cd.fact 8 (f := .glo "is_small") rfl)
  have b21 : Binds K fd21 ["sort"] [] := F21.binds fun _ _ _ _ _ _ us hl => match us, hl with | [_], _ => rfl
  obtain ⟨fd22, F22⟩ := cd.def_ 9 (d := dD "check_sort" 22) rfl
  have F22 : Fun K "check_sort" "check_sort" (top 22) (He.ga K "check_sort") fd22 := fun_of F22
  have m22 : mg "check_sort" = some (.ref (He.ga K "check_sort")) := He.glo_ok X G (cd.fact 9 (f := .glo "check_sort") rfl)
  have b22 : Binds K fd22 ["value"] [] := F22.binds fun _ _ _ _ _ _ us hl => match us, hl with | [_], _ => rfl
  obtain ⟨fd27, F27⟩ := cd.def_ 10 (d := dD "is_number" 27) rfl
  have F27 : Fun K "is_number" "is_number" (top 27) (He.ga K "is_number") fd27 := fun_of F27
  have m27 : mg "is_number" = some (.ref (He.ga K "is_number")) := He.glo_ok X G (cd.fact 10 (f := .glo "is_number") rfl)
  have b27 : Binds K fd27 ["value", "most"] [] := F27.binds fun _ _ _ _ _ _ us hl => match us, hl with | [_, _], _ => rfl
  obtain ⟨fd28, F28⟩ := cd.def_ 11 (d := dD "is_pair" 28) rfl
  have F28 : Fun K "is_pair" "is_pair" (top 28) (He.ga K "is_pair") fd28 := fun_of F28
  have m28 : mg "is_pair" = some (.ref (He.ga K "is_pair")) := He.glo_ok X G (cd.fact 11 (f := .glo "is_pair") rfl)
  have b28 : Binds K fd28 ["value"] [] := F28.binds fun _ _ _ _ _ _ us hl => match us, hl with | [_], _ => rfl
  obtain ⟨fd29, F29⟩ := cd.def_ 12 (d := dD "is_side" 29) rfl
  have F29 : Fun K "is_side" "is_side" (top 29) (He.ga K "is_side") fd29 := fun_of F29
  have m29 : mg "is_side" = some (.ref (He.ga K "is_side")) := He.glo_ok X G (cd.fact 12 (f := .glo "is_side") rfl)
  have b29 : Binds K fd29 ["value"] [] := F29.binds fun _ _ _ _ _ _ us hl => match us, hl with | [_], _ => rfl
  obtain ⟨fd30, F30⟩ := cd.def_ 13 (d := dD "bad_place" 30) rfl
  have F30 : Fun K "bad_place" "bad_place" (top 30) (He.ga K "bad_place") fd30 := fun_of F30
  have m30 : mg "bad_place" = some (.ref (He.ga K "bad_place")) := He.glo_ok X G (cd.fact 13 (f := .glo "bad_place") rfl)
  have b30 : Binds K fd30 ["sort", "data"] [] := F30.binds fun _ _ _ _ _ _ us hl => match us, hl with | [_, _], _ => rfl
  obtain ⟨fd31, F31⟩ := cd.def_ 14 (d := dD "bad_among" 31) rfl
  have F31 : Fun K "bad_among" "bad_among" (top 31) (He.ga K "bad_among") fd31 := fun_of F31
  have m31 : mg "bad_among" = some (.ref (He.ga K "bad_among")) := He.glo_ok X G (cd.fact 14 (f := .glo "bad_among") rfl)
  have b31 : Binds K fd31 ["rows"] [] := F31.binds fun _ _ _ _ _ _ us hl => match us, hl with | [_], _ => rfl
  obtain ⟨fd32, F32⟩ := cd.def_ 15 (d := dD "value_key" 32) rfl
  have F32 : Fun K "value_key" "value_key" (top 32) (He.ga K "value_key") fd32 := fun_of F32
  have m32 : mg "value_key" = some (.ref (He.ga K "value_key")) := He.glo_ok X G (cd.fact 15 (f := .glo "value_key") rfl)
  have b32 : Binds K fd32 ["sort", "value"] [] := F32.binds fun _ _ _ _ _ _ us hl => match us, hl with | [_, _], _ => rfl
  obtain ⟨fd33, F33⟩ := cd.def_ 16 (d := dD "sorted_values" 33) rfl
  have F33 : Fun K "sorted_values" "sorted_values" (top 33) (He.ga K "sorted_values") fd33 := fun_of F33
  have m33 : mg "sorted_values" = some (.ref (He.ga K "sorted_values")) := He.glo_ok X G (cd.fact 16 (f := .glo "sorted_values") rfl)
  have b33 : Binds K fd33 ["sort", "values"] [] := F33.binds fun _ _ _ _ _ _ us hl => match us, hl with | [_, _], _ => rfl
  obtain ⟨fd34, F34⟩ := cd.def_ 17 (d := dD "is_formed" 34) rfl
  have F34 : Fun K "is_formed" "is_formed" (top 34) (He.ga K "is_formed") fd34 := fun_of F34
  have m34 : mg "is_formed" = some (.ref (He.ga K "is_formed")) := He.glo_ok X G (cd.fact 17 (f := .glo "is_formed") rfl)
  have b34 : Binds K fd34 ["sort", "value"] [] := F34.binds fun _ _ _ _ _ _ us hl => match us, hl with | [_, _], _ => rfl
  obtain ⟨fd35, F35⟩ := cd.def_ 18 (d := dD "is_value" 35) rfl
  have F35 : Fun K "is_value" "is_value" (top 35) (He.ga K "is_value") fd35 := fun_of F35
  have m35 : mg "is_value" = some (.ref (He.ga K "is_value")) := He.glo_ok X G (cd.fact 18 (f := .glo "is_value") rfl)
  have b35 : Binds K fd35 ["sort", "value"] [] := F35.binds fun _ _ _ _ _ _ us hl => match us, hl with | [_, _], _ => rfl
  obtain ⟨fd36, F36⟩ := cd.def_ 19 (d := dD "bad_form" 36) rfl
  have F36 : Fun K "bad_form" "bad_form" (top 36) (He.ga K "bad_form") fd36 := fun_of F36
  have m36 : mg "bad_form" = some (.ref (He.ga K "bad_form")) := He.glo_ok X G (cd.fact 19 (f := .glo "bad_form") rfl)
  have b36 : Binds K fd36 ["sort", "value"] [] := F36.binds fun _ _ _ _ _ _ us hl => match us, hl with | [_, _], _ => rfl
  obtain ⟨fd37, F37⟩ := cd.def_ 20 (d := dD "need_value" 37) rfl
  have F37 : Fun K "need_value" "need_value" (top 37) (He.ga K "need_value") fd37 := fun_of F37
  have m37 : mg "need_value" = some (.ref (He.ga K "need_value")) := He.glo_ok X G (cd.fact 20 (f := .glo "need_value") rfl)
  have b37 : Binds K fd37 ["sort", "value"] [] := F37.binds fun _ _ _ _ _ _ us hl => match us, hl with | [_, _], _ => rfl
  obtain ⟨fd38, F38⟩ := cd.def_ 21 (d := dD "ordered" 38) rfl
  have F38 : Fun K "ordered" "ordered" (top 38) (He.ga K "ordered") fd38 := fun_of F38
  have m38 : mg "ordered" = some (.ref (He.ga K "ordered")) := He.glo_ok X G (cd.fact 21 (f := .glo "ordered") rfl)
  have b38 : Binds K fd38 ["sort", "values"] [] := F38.binds fun _ _ _ _ _ _ us hl => match us, hl with | [_, _], _ => rfl
  obtain ⟨fd39, F39⟩ := cd.def_ 22 (d := dD "rising_places" 39) rfl
  have F39 : Fun K "rising_places" "rising_places" (top 39) (He.ga K "rising_places") fd39 := fun_of F39
  have m39 : mg "rising_places" = some (.ref (He.ga K "rising_places")) := He.glo_ok X G (cd.fact 22 (f := .glo "rising_places") rfl)
  have b39 : Binds K fd39 ["sort", "v", "u"] [] := F39.binds fun _ _ _ _ _ _ us hl => match us, hl with | [_, _, _], _ => rfl
  obtain ⟨fd40, F40⟩ := cd.def_ 23 (d := dD "freed" 40) rfl
  have F40 : Fun K "freed" "freed" (top 40) (He.ga K "freed") fd40 := fun_of F40
  have m40 : mg "freed" = some (.ref (He.ga K "freed")) := He.glo_ok X G (cd.fact 23 (f := .glo "freed") rfl)
  have b40 : Binds K fd40 ["rows", "given", "element", "seen"] [] := F40.binds fun _ _ _ _ _ _ us hl => match us, hl with | [_, _, _, _], _ => rfl
  obtain ⟨fd41, F41⟩ := cd.def_ 24 (d := dD "can_be_placed" 41) rfl
  have F41 : Fun K "can_be_placed" "can_be_placed" (top 41) (He.ga K "can_be_placed") fd41 := fun_of F41
  have m41 : mg "can_be_placed" = some (.ref (He.ga K "can_be_placed")) := He.glo_ok X G (cd.fact 24 (f := .glo "can_be_placed") rfl)
  have b41 : Binds K fd41 ["rows"] [] := F41.binds fun _ _ _ _ _ _ us hl => match us, hl with | [_], _ => rfl
  obtain ⟨fd42, F42⟩ := cd.def_ 25 (d := dD "unlike_places" 42) rfl
  have F42 : Fun K "unlike_places" "unlike_places" (top 42) (He.ga K "unlike_places") fd42 := fun_of F42
  have m42 : mg "unlike_places" = some (.ref (He.ga K "unlike_places")) := He.glo_ok X G (cd.fact 25 (f := .glo "unlike_places") rfl)
  have b42 : Binds K fd42 ["sort", "v", "u"] [] := F42.binds fun _ _ _ _ _ _ us hl => match us, hl with | [_, _, _], _ => rfl
  obtain ⟨fd43, F43⟩ := cd.def_ 26 (d := dD "raw_places" 43) rfl
  have F43 : Fun K "raw_places" "raw_places" (top 43) (He.ga K "raw_places") fd43 := fun_of F43
  have m43 : mg "raw_places" = some (.ref (He.ga K "raw_places")) := He.glo_ok X G (cd.fact 26 (f := .glo "raw_places") rfl)
  have b43 : Binds K fd43 ["sort", "v", "u"] [] := F43.binds fun _ _ _ _ _ _ us hl => match us, hl with | [_, _, _], _ => rfl
  obtain ⟨fd44, F44⟩ := cd.def_ 27 (d := dD "raw_holds" 44) rfl
  have F44 : Fun K "raw_holds" "raw_holds" (top 44) (He.ga K "raw_holds") fd44 := fun_of F44
  have m44 : mg "raw_holds" = some (.ref (He.ga K "raw_holds")) := He.glo_ok X G (cd.fact 27 (f := .glo "raw_holds") rfl)
  have b44 : Binds K fd44 ["sort", "v", "u"] [] := F44.binds fun _ _ _ _ _ _ us hl => match us, hl with | [_, _, _], _ => rfl
  obtain ⟨fd45, F45⟩ := cd.def_ 28 (d := dD "holds" 45) rfl
  have F45 : Fun K "holds" "holds" (top 45) (He.ga K "holds") fd45 := fun_of F45
  have m45 : mg "holds" = some (.ref (He.ga K "holds")) := He.glo_ok X G (cd.fact 28 (f := .glo "holds") rfl)
  have b45 : Binds K fd45 ["sort", "v", "u"] [] := F45.binds fun _ _ _ _ _ _ us hl => match us, hl with | [_, _, _], _ => rfl
  obtain ⟨fd46, F46⟩ := cd.def_ 29 (d := dD "places" 46) rfl
  have F46 : Fun K "places" "places" (top 46) (He.ga K "places") fd46 := fun_of F46
  have m46 : mg "places" = some (.ref (He.ga K "places")) := He.glo_ok X G (cd.fact 29 (f := .glo "places") rfl)
  have b46 : Binds K fd46 ["sort", "v", "u"] [] := F46.binds fun _ _ _ _ _ _ us hl => match us, hl with | [_, _, _], _ => rfl
  obtain ⟨fd47, F47⟩ := cd.def_ 30 (d := dD "raw_least" 47) rfl
  have F47 : Fun K "raw_least" "raw_least" (top 47) (He.ga K "raw_least") fd47 := fun_of F47
  have m47 : mg "raw_least" = some (.ref (He.ga K "raw_least")) := He.glo_ok X G (cd.fact 30 (f := .glo "raw_least") rfl)
  have b47 : Binds K fd47 ["sort"] [] := F47.binds fun _ _ _ _ _ _ us hl => match us, hl with | [_], _ => rfl
  obtain ⟨fd48, F48⟩ := cd.def_ 31 (d := dD "least_values" 48) rfl
  have F48 : Fun K "least_values" "least_values" (top 48) (He.ga K "least_values") fd48 := fun_of F48
  have m48 : mg "least_values" = some (.ref (He.ga K "least_values")) := He.glo_ok X G (cd.fact 31 (f := .glo "least_values") rfl)
  have b48 : Binds K fd48 ["sort"] [] := F48.binds fun _ _ _ _ _ _ us hl => match us, hl with | [_], _ => rfl
  obtain ⟨fd49, F49⟩ := cd.def_ 32 (d := dD "raw_size" 49) rfl
  have F49 : Fun K "raw_size" "raw_size" (top 49) (He.ga K "raw_size") fd49 := fun_of F49
  have m49 : mg "raw_size" = some (.ref (He.ga K "raw_size")) := He.glo_ok X G (cd.fact 32 (f := .glo "raw_size") rfl)
  have b49 : Binds K fd49 ["sort", "value"] [] := F49.binds fun _ _ _ _ _ _ us hl => match us, hl with | [_, _], _ => rfl
  obtain ⟨fd50, F50⟩ := cd.def_ 33 (d := dD "size" 50) rfl
  have F50 : Fun K "size" "size" (top 50) (He.ga K "size") fd50 := fun_of F50
  have m50 : mg "size" = some (.ref (He.ga K "size")) := He.glo_ok X G (cd.fact 33 (f := .glo "size") rfl)
  have b50 : Binds K fd50 ["sort", "value"] [] := F50.binds fun _ _ _ _ _ _ us hl => match us, hl with | [_, _], _ => rfl
  obtain ⟨fd52, F52⟩ := cd.def_ 34 (d := dD "_law_open_cells" 52) rfl
  have F52 : Fun K "_law_open_cells" "_law_open_cells" (top 52) (He.ga K "_law_open_cells") fd52 := fun_of F52
  have m52 : mg "_law_open_cells" = some (.ref (He.ga K "_law_open_cells")) := He.glo_ok X G (cd.fact 34 (f := .glo "_law_open_cells") rfl)
  have b52 : Binds K fd52 ["_law_script"] [] := F52.binds fun _ _ _ _ _ _ us hl => match us, hl with | [_], _ => rfl
  obtain ⟨fd53, F53⟩ := cd.def_ 35 (d := dD "_law_pick" 53) rfl
  have F53 : Fun K "_law_pick" "_law_pick" (top 53) (He.ga K "_law_pick") fd53 := fun_of F53
  have m53 : mg "_law_pick" = some (.ref (He.ga K "_law_pick")) := He.glo_ok X G (cd.fact 35 (f := .glo "_law_pick") rfl)
  have b53 : Binds K fd53 ["_law_source", "_law_many"] [] := F53.binds fun _ _ _ _ _ _ us hl => match us, hl with | [_, _], _ => rfl
  obtain ⟨fd54, F54⟩ := cd.def_ 36 (d := dD "_law_key" 54) rfl
  have F54 : Fun K "_law_key" "_law_key" (top 54) (He.ga K "_law_key") fd54 := fun_of F54
  have m54 : mg "_law_key" = some (.ref (He.ga K "_law_key")) := He.glo_ok X G (cd.fact 36 (f := .glo "_law_key") rfl)
  have b54 : Binds K fd54 ["_law_sort", "_law_v"] [] := F54.binds fun _ _ _ _ _ _ us hl => match us, hl with | [_, _], _ => rfl
  obtain ⟨fd55, F55⟩ := cd.def_ 37 (d := dD "_law_formed" 55) rfl
  have F55 : Fun K "_law_formed" "_law_formed" (top 55) (He.ga K "_law_formed") fd55 := fun_of F55
  have m55 : mg "_law_formed" = some (.ref (He.ga K "_law_formed")) := He.glo_ok X G (cd.fact 37 (f := .glo "_law_formed") rfl)
  have b55 : Binds K fd55 ["_law_sort", "_law_v"] [] := F55.binds fun _ _ _ _ _ _ us hl => match us, hl with | [_, _], _ => rfl
  obtain ⟨fd56, F56⟩ := cd.def_ 38 (d := dD "_law_beneath" 56) rfl
  have F56 : Fun K "_law_beneath" "_law_beneath" (top 56) (He.ga K "_law_beneath") fd56 := fun_of F56
  have m56 : mg "_law_beneath" = some (.ref (He.ga K "_law_beneath")) := He.glo_ok X G (cd.fact 38 (f := .glo "_law_beneath") rfl)
  have b56 : Binds K fd56 ["_law_sort", "_law_v"] [] := F56.binds fun _ _ _ _ _ _ us hl => match us, hl with | [_, _], _ => rfl
  obtain ⟨fd57, F57⟩ := cd.def_ 39 (d := dD "_law_draw_sort" 57) rfl
  have F57 : Fun K "_law_draw_sort" "_law_draw_sort" (top 57) (He.ga K "_law_draw_sort") fd57 := fun_of F57
  have m57 : mg "_law_draw_sort" = some (.ref (He.ga K "_law_draw_sort")) := He.glo_ok X G (cd.fact 39 (f := .glo "_law_draw_sort") rfl)
  have b57 : Binds K fd57 ["_law_source"] [] := F57.binds fun _ _ _ _ _ _ us hl => match us, hl with | [_], _ => rfl
  obtain ⟨fd58, F58⟩ := cd.def_ 40 (d := dD "_law_draw_value" 58) rfl
  have F58 : Fun K "_law_draw_value" "_law_draw_value" (top 58) (He.ga K "_law_draw_value") fd58 := fun_of F58
  have m58 : mg "_law_draw_value" = some (.ref (He.ga K "_law_draw_value")) := He.glo_ok X G (cd.fact 40 (f := .glo "_law_draw_value") rfl)
  have b58 : Binds K fd58 ["_law_source", "_law_sort", "_law_most"] [] := F58.binds fun _ _ _ _ _ _ us hl => match us, hl with | [_, _, _], _ => rfl
  obtain ⟨fd59, F59⟩ := cd.def_ 41 (d := dD "_law_orders_right" 59) rfl
  have F59 : Fun K "_law_orders_right" "_law_orders_right" (top 59) (He.ga K "_law_orders_right") fd59 := fun_of F59
  have m59 : mg "_law_orders_right" = some (.ref (He.ga K "_law_orders_right")) := He.glo_ok X G (cd.fact 41 (f := .glo "_law_orders_right") rfl)
  have b59 : Binds K fd59 ["_law_sort", "_law_values"] [] := F59.binds fun _ _ _ _ _ _ us hl => match us, hl with | [_, _], _ => rfl
  obtain ⟨fd60, F60⟩ := cd.def_ 42 (d := dD "_law_least_right" 60) rfl
  have F60 : Fun K "_law_least_right" "_law_least_right" (top 60) (He.ga K "_law_least_right") fd60 := fun_of F60
  have m60 : mg "_law_least_right" = some (.ref (He.ga K "_law_least_right")) := He.glo_ok X G (cd.fact 42 (f := .glo "_law_least_right") rfl)
  have b60 : Binds K fd60 ["_law_sort", "_law_values"] [] := F60.binds fun _ _ _ _ _ _ us hl => match us, hl with | [_, _], _ => rfl
  obtain ⟨fd61, F61⟩ := cd.def_ 43 (d := dD "_law_places_right" 61) rfl
  have F61 : Fun K "_law_places_right" "_law_places_right" (top 61) (He.ga K "_law_places_right") fd61 := fun_of F61
  have m61 : mg "_law_places_right" = some (.ref (He.ga K "_law_places_right")) := He.glo_ok X G (cd.fact 43 (f := .glo "_law_places_right") rfl)
  have b61 : Binds K fd61 ["_law_sort", "_law_values"] [] := F61.binds fun _ _ _ _ _ _ us hl => match us, hl with | [_, _], _ => rfl
  obtain ⟨fd62, F62⟩ := cd.def_ 44 (d := dD "law" 62) rfl
  have F62 : Fun K "law" "law" (top 62) (He.ga K "law") fd62 := fun_of F62
  have m62 : mg "law" = some (.ref (He.ga K "law")) := He.glo_ok X G (cd.fact 44 (f := .glo "law") rfl)
  have b62 : Binds K fd62 ["_law_script"] [] := F62.binds fun _ _ _ _ _ _ us hl => match us, hl with | [_], _ => rfl
  refine ⟨fd62, F62, m62, fun base TB => ?_⟩
  have lam : ∀ x : Str, x ∈ (["sorted_values", "_law_formed", "_law_beneath"] : List Str) → TabB base mg (He.cT K (x, none)).1 (tb K x) := fun x hx => TB _ (List.mem_map.mpr ⟨(x, none), by
    simp only [List.mem_cons, List.not_mem_nil, or_false] at hx
    rcases hx with rfl | rfl | rfl
    · exact .head _
    · exact .tail _ (.head _)
    · exact .tail _ (.tail _ (.head _)), rfl⟩)
  have one : ∀ (q : Addr × Str), q ∈ tT K → q = (tb K "sorted_values", lamN "sorted_values") ∨ q = (tb K "_law_formed", lamN "_law_formed") ∨ q = (tb K "_law_beneath", lamN "_law_beneath") := fun q hq => by
    simpa [tT] using hq
  have LA33 : LamAt base mg (tT K) "sorted_values" (He.cT K ("sorted_values", none)).1 (tb K "sorted_values") := ⟨lam _ (.head _), .head _, fun q hq e => by
    rcases one q hq with rfl | rfl | rfl
    · rfl
    · exact absurd e.symm n12
    · exact absurd e.symm n13⟩
  have LA55 : LamAt base mg (tT K) "_law_formed" (He.cT K ("_law_formed", none)).1 (tb K "_law_formed") := ⟨lam _ (.tail _ (.head _)), .tail _ (.head _), fun q hq e => by
    rcases one q hq with rfl | rfl | rfl
    · exact absurd e n12
    · rfl
    · exact absurd e.symm n23⟩
  have LA56 : LamAt base mg (tT K) "_law_beneath" (He.cT K ("_law_beneath", none)).1 (tb K "_law_beneath") := ⟨lam _ (.tail _ (.tail _ (.head _))), .tail _ (.tail _ (.head _)), fun q hq e => by
    rcases one q hq with rfl | rfl | rfl
    · exact absurd e n13
    · exact absurd e n23
    · rfl⟩
  have f13 : Fd P w K mg base (tT K) 1 "is_word" RWord := w_word F13 m13 b13 GB
  have f14 : Fd P w K mg base (tT K) 2 "are_letters" RLetters := w_letters F14 m14 b14 GB f13
  have f15 : Fd P w K mg base (tT K) 3 "has_form" RForm := w_form F15 m15 b15 GB f14
  have f16 : Fd P w K mg base (tT K) 1 "parts_of" RParts := w_parts F16 m16 b16
  have f17 : Fd P w K mg base (tT K) 9 "bad_path" (RPath 5) := w_path F17 m17 b17 GB f15 f16 5
  have f18 : Fd P w K mg base (tT K) 7 "all_within" (RWithin 5) := w_within F18 m18 b18 GB f16 5
  have f19 : Fd P w K mg base (tT K) 7 "depth" (RDepth 5) := w_depth F19 m19 b19 GB f16 5
  have f20 : Fd P w K mg base (tT K) 7 "raw_components" (RComp 5) := w_comp F20 m20 b20 GB f16 5
  have f21 : Fd P w K mg base (tT K) 8 "is_small" RSmall := w_small F21 m21 b21 GB f18 f19 f20
  have f22 : Fd P w K mg base (tT K) 10 "check_sort" RCheck := w_check F22 m22 b22 GB f17 f21
  have f27 : Fd P w K mg base (tT K) 1 "is_number" RNumber := w_number F27 m27 b27 GB
  have f28 : Fd P w K mg base (tT K) 1 "is_pair" RPair := w_pair F28 m28 b28 GB
  have f29 : Fd P w K mg base (tT K) 2 "is_side" RSide := w_side F29 m29 b29 GB f28
  have f30 : Fd P w K mg base (tT K) 13 "bad_place" (RBad 5) := w_bad F30 m30 b30 F31 m31 b31 GB f27 f28 f29 5
  have f32 : Fd P w K mg base (tT K) 6 "value_key" (RKey 5) := w_key F32 m32 b32 GB 5
  have f33 : Fd P w K mg base (tT K) 10 "sorted_values" RSorted := w_sorted (funC_of F33) m33 b33 GB LA33 f32
  have f34 : Fd P w K mg base (tT K) 19 "is_formed" (RFormed 5) := w_formed F34 m34 b34 GB f30 f28 f29 f33 5
  have f35 : Fd P w K mg base (tT K) 20 "is_value" (RSV fun _ _ => .bool true) := w_isv F35 m35 b35 f22 f34
  have f36 : Fd P w K mg base (tT K) 20 "bad_form" (RSV fun _ _ => .none) := w_badf F36 m36 b36 f30 f34
  have f37 : Fd P w K mg base (tT K) 21 "need_value" (RSV fun _ _ => .none) := w_need F37 m37 b37 f36
  have f38 : Fd P w K mg base (tT K) 21 "ordered" ROrd := w_ord F38 m38 b38 GB f22 f36 f33
  have f40 : FnOk P w K mg base CX0 6 (He.ga K "freed") fd40 ["rows", "given", "element", "seen"] (spFreed (tT K) K 5) := w_freed F40 m40 b40 5
  have f41 : Fd P w K mg base (tT K) 7 "can_be_placed" RCan := w_can F41 m41 b41 GB F40 m40 b40 f40
  have U : ∀ n k, 20 ≤ k → Fd P w K mg base (tT K) k "raw_holds" (RHold n) → Fd P w K mg base (tT K) (k + 1) "unlike_places" (RUnl n) := fun n k hk FH => w_unl hk F42 m42 b42 GB (f41.mono (by decide)) FH
  have WH : ∀ n, Fd P w K mg base (tT K) (3 * n + 20) "raw_holds" (RHold n) := w_hold F44 m44 b44 F39 m39 b39 F43 m43 b43 GB U
  have f44 : Fd P w K mg base (tT K) 35 "raw_holds" (RHold 5) := WH 5
  have f44b : Fd P w K mg base (tT K) 32 "raw_holds" (RHold 4) := WH 4
  have f39 : Fd P w K mg base (tT K) 33 "rising_places" (RRis 4) := w_ris F39 m39 b39 GB f44b
  have f42 : Fd P w K mg base (tT K) 33 "unlike_places" (RUnl 4) := U 4 32 (by decide) f44b
  have f43 : Fd P w K mg base (tT K) 34 "raw_places" (RPl 4) := w_pl F43 m43 b43 f39 f42
  have f45 : Fd P w K mg base (tT K) 36 "holds" (RS2 (fun _ => true) holdsD) := w_holds F45 m45 b45 f22 f37 f44
  have f46 : Fd P w K mg base (tT K) 35 "places" (RS2 isRow placesD) := w_places F46 m46 b46 f22 f37 f43
  have f47 : Fd P w K mg base (tT K) 6 "raw_least" (RLeast 5) := w_least F47 m47 b47 GB 5
  have f48 : Fd P w K mg base (tT K) 11 "least_values" RLeastV := w_leastv F48 m48 b48 f22 f47
  have f49 : Fd P w K mg base (tT K) 6 "raw_size" (RSize 5) := w_rsize F49 m49 b49 GB 5
  have f50 : Fd P w K mg base (tT K) 22 "size" (RSV fun s v => .int (sz s v : Nat)) := w_size F50 m50 b50 f22 f37 f49
  have f52 : FnOk P w K mg base CX0 1 (He.ga K "_law_open_cells") fd52 ["_law_script"] (spOpen (tT K) K) := w_open F52 GB
  have f53 : FdS P w K mg base (tT K) 1 "_law_pick" PrePick RPick := w_pick F53 m53 b53 GB
  have f54 : Fd P w K mg base (tT K) 6 "_law_key" (RLKey 5) := w_lkey F54 m54 b54 GB 5
  have f55 : Fd P w K mg base (tT K) 15 "_law_formed" (RLF 5) := w_lf (funC_of F55) m55 b55 GB LA55 f54 5
  have f56 : FdN P w K mg base (tT K) 25 "_law_beneath" (PreBen 5) RBen := w_ben (funC_of F56) m56 b56 GB LA56 f54 f55 5
  have f57 : FdS P w K mg base (tT K) 2 "_law_draw_sort" (fun ds => ds = []) RDS := w_ds F57 m57 b57 GB f53
  have f58 : FdS P w K mg base (tT K) 21 "_law_draw_value" (PreDV 5) RDV := w_dv F58 m58 b58 GB f53 f55 5
  have f59 : Fd P w K mg base (tT K) 37 "_law_orders_right" (RChk fun _ => true) := w_or F59 m59 b59 GB f45 f50
  have f60 : Fd P w K mg base (tT K) 37 "_law_least_right" (RChk fun _ => true) := w_lr F60 m60 b60 GB f45 f48 f35 f38
  have f61 : Fd P w K mg base (tT K) 37 "_law_places_right" (RChk isRow) := w_pr F61 m61 b61 GB f45 f46
  exact law_end (w_law F62 GB f52 m52 F52.kp b52 f53 f57 f58 f56 f59 f60 f61 f45 f38)
theorem facts {l : PySem.W.OpenLaw} {w : World} {K : PySem.W.Frag} {h : Heap} {mg : Str → Option Value} {f : Addr} (X : K.In h) (G : h.Ns mainGlobals mg) (hfa : mg ("law" : Str) = some (.ref f)) (c : He.SaysX fa fn ts tf ex w h K) : LawAtS l w K CX0 38 63 "_law_script" mg f h := by
  obtain ⟨fd, F, m, ok⟩ := all_of (P := l.prog) X G c
  have e := hfa.symm.trans m
  cases e
  have at_ : ∀ p ∈ tf.map (He.cT K), ∃ q ∈ tf, p = He.cT K q := fun p hp => by
    obtain ⟨q, hq, rfl⟩ := List.mem_map.mp hp
    exact ⟨q, hq, rfl⟩
  refine ⟨fd, tf.map (He.cT K), spEnd (tT K) K, fun p hp => ?_, fun p hp => ?_, fun p hp => ?_, fun s u => ?_, fun H a ns hl _ ht hs => ⟨a, ns, rfl, hs, by omega, fun p hp => ?_, fun _ => rfl⟩, fun base _ _ TB => ok base TB⟩
  · obtain ⟨q, hq, rfl⟩ := at_ p hp
    exact c.empty q hq
  · obtain ⟨q, hq, rfl⟩ := at_ p hp
    exact c.out q hq
  · obtain ⟨q, hq, rfl⟩ := at_ p hp
    exact PySem.W.codeHd_of_K X (c.hd q hq)
  · obtain ⟨oc, od, kV, doc, pm, an, cdv, ct, osl, rfl, lk, hcd⟩ := F.ex
    exact .of_eq rfl
  · have hp : p = (tb K "sorted_values", lamN "sorted_values") ∨ p = (tb K "_law_formed", lamN "_law_formed") ∨ p = (tb K "_law_beneath", lamN "_law_beneath") := by simpa [tT] using hp
    rcases hp with rfl | rfl | rfl
    · exact ht (He.cT K ("sorted_values", none)) (List.mem_map.mpr ⟨_, .head _, rfl⟩)
    · exact ht (He.cT K ("_law_formed", none)) (List.mem_map.mpr ⟨_, .tail _ (.head _), rfl⟩)
    · exact ht (He.cT K ("_law_beneath", none)) (List.mem_map.mpr ⟨_, .tail _ (.tail _ (.head _)), rfl⟩)
end LB
open PySem PySem.W PySem.Calls PyProof.Rows
set_option maxHeartbeats 0 in
theorem PySem.Challenge.cw_lossbars_k08_whole_holding_is_an_order_holds : PySem.Challenge.rw_lossbars_k08_whole_holding_is_an_order.Holds := by
  w_on; o_law
  refine HandSHeadRun.head_any (r := OpenLaw.row PySem.Challenge.rw_lossbars_k08_whole_holding_is_an_order) (q := LB.qv0) (H := LB.hkX) (ob := LB.obK) (M := 6000) (loose := LB.names) (d := HandSHeadRun.topDef (OpenLaw.row PySem.Challenge.rw_lossbars_k08_whole_holding_is_an_order).prog 62) (kwd := []) LB.ob_eq
    (by kernel_rfl) (fun s => by kernel_rfl) LB.runX (by kernel_rfl) (by kernel_rfl) (by kernel_rfl) (by rfl) (by first | assumption | decide +kernel) (by decide +kernel) ⟨rfl, rfl, rfl, rfl, rfl, by decide +kernel⟩ ?hw ?hc
  case hw => w_witness2
  case hc =>
    refine LamX.walk_ofTsE (l := PySem.Challenge.rw_lossbars_k08_whole_holding_is_an_order) (n := 63) (k := 38) (x := "_law_script") (CX := fun _ => L2.CX0) rfl (by decide) (by kernel_rfl) ⟨rfl, by decide, by decide⟩ ?F (fun _ _ _ _ _ z => z)
    intro w mg fa h Y G hmg0
    obtain ⟨K, KX, c⟩ := Y
    have hmg : mg ("law" : PySem.Str) = some (.ref fa) := by
      have e : (HandSHeadRun.topDef (OpenLaw.row PySem.Challenge.rw_lossbars_k08_whole_holding_is_an_order).prog 62).name = ("law" : PySem.Str) := by kernel_rfl
      rw [← e]
      exact hmg0
    exact ⟨K, KX, LB.facts KX G hmg c⟩
