import PyProof.Rows.All
import Wide.All
import OpenK.AllK
import Wide.FinOn
import HandS.ForMost
import HandS.IsInst
import HandS.Style
import HandS.Conv
import HandS.SortRule
import HandS.SortInts
import HandS.TupAny
import HandS.More
import HandS.Walk
import HandS.Deep
import PySem.Challenge.RW_envways_k19_whole_faults_put_together
set_option Elab.async false
set_option linter.all false
set_option maxRecDepth 100000
set_option maxHeartbeats 4000000
/-! The language of expressions, its runs by environments (R), and what a run leaves behind (events). -/
namespace EW

inductive E where
  | num (n : Nat)
  | name (k : Nat)
  | plus (a b : E)
  | lt (k : Nat) (a b : E)
  | fn (k : Nat) (b : E)
  | call (a b : E)
  | ite (c a b : E)
  deriving DecidableEq

namespace E
/-- how many expressions -/
def size : E → Nat
  | num _ => 1
  | name _ => 1
  | plus a b => 1 + (a.size + b.size)
  | lt _ a b => 1 + (a.size + b.size)
  | fn _ b => 1 + b.size
  | call a b => 1 + (a.size + b.size)
  | ite c a b => 1 + (c.size + (a.size + b.size))
/-- how many others are around the deepest -/
def depth : E → Nat
  | num _ => 0
  | name _ => 0
  | plus a b => 1 + max a.depth b.depth
  | lt _ a b => 1 + max a.depth b.depth
  | fn _ b => 1 + b.depth
  | call a b => 1 + max a.depth b.depth
  | ite c a b => 1 + max c.depth (max a.depth b.depth)
/-- how many sites -/
def ns : E → Nat
  | num _ => 0
  | name _ => 0
  | plus a b => a.ns + b.ns
  | lt _ a b => 1 + (a.ns + b.ns)
  | fn _ b => 1 + b.ns
  | call a b => a.ns + b.ns
  | ite c a b => c.ns + (a.ns + b.ns)
/-- an expression where the names B are bound -/
def Wf : E → List Nat → Prop
  | num n, _ => n < 1000
  | name k, B => k < 10 ∧ k ∈ B
  | plus a b, B => a.Wf B ∧ b.Wf B
  | lt k a b, B => k < 10 ∧ a.Wf B ∧ b.Wf (B ++ [k])
  | fn k b, B => k < 10 ∧ b.Wf (B ++ [k])
  | call a b, B => a.Wf B ∧ b.Wf B
  | ite c a b, B => c.Wf B ∧ a.Wf B ∧ b.Wf B
theorem Wf.mono : ∀ {e : E} {B B' : List Nat}, (∀ k ∈ B, k ∈ B') → e.Wf B → e.Wf B'
  | num _, _, _, _, h => h
  | name k, _, _, s, h => ⟨h.1, s _ h.2⟩
  | plus a b, _, _, s, h => ⟨Wf.mono s h.1, Wf.mono s h.2⟩
  | lt k a b, B, B', s, h => ⟨h.1, Wf.mono s h.2.1, Wf.mono (fun j hj => by
      rcases List.mem_append.mp hj with q | q
      · exact List.mem_append.mpr (.inl (s _ q))
      · exact List.mem_append.mpr (.inr q)) h.2.2⟩
  | fn k b, B, B', s, h => ⟨h.1, Wf.mono (fun j hj => by
      rcases List.mem_append.mp hj with q | q
      · exact List.mem_append.mpr (.inl (s _ q))
      · exact List.mem_append.mpr (.inr q)) h.2⟩
  | call a b, _, _, s, h => ⟨Wf.mono s h.1, Wf.mono s h.2⟩
  | ite c a b, _, _, s, h => ⟨Wf.mono s h.1, Wf.mono s h.2.1, Wf.mono s h.2.2⟩
end E

/-- a scope: names' sites -/
abbrev Sc := Nat → Option Nat
def Sc.set (c : Sc) (k s : Nat) : Sc := fun j => if j = k then some s else c j

/-- the program with sites for names -/
def sit : E → Sc → Nat → E
  | .num m, _, _ => .num m
  | .name k, c, _ => .name ((c k).getD 0)
  | .plus a b, c, n => .plus (sit a c n) (sit b c (n + a.ns))
  | .lt k a b, c, n => .lt n (sit a c (n + 1)) (sit b (c.set k n) (n + 1 + a.ns))
  | .fn k b, c, n => .fn n (sit b (c.set k n) (n + 1))
  | .call a b, c, n => .call (sit a c n) (sit b c (n + a.ns))
  | .ite d a b, c, n => .ite (sit d c n) (sit a c (n + d.ns)) (sit b c (n + d.ns + a.ns))

/-- for each site the fun that binds it -/
def own : E → Option Nat → Nat → List (Option Nat)
  | .num _, _, _ => []
  | .name _, _, _ => []
  | .plus a b, o, n => own a o n ++ own b o (n + a.ns)
  | .lt _ a b, o, n => o :: (own a o (n + 1) ++ own b o (n + 1 + a.ns))
  | .fn _ b, _, n => some n :: own b (some n) (n + 1)
  | .call a b, o, n => own a o n ++ own b o (n + a.ns)
  | .ite d a b, o, n => own d o n ++ (own a o (n + d.ns) ++ own b o (n + d.ns + a.ns))
theorem own_length : ∀ (e : E) (o : Option Nat) (n : Nat), (own e o n).length = e.ns
  | .num _, _, _ => rfl
  | .name _, _, _ => rfl
  | .plus a b, o, n => by simp [own, E.ns, own_length a, own_length b]
  | .lt _ a b, o, n => by simp [own, E.ns, own_length a, own_length b]; omega
  | .fn _ b, _, n => by simp [own, E.ns, own_length b]; omega
  | .call a b, o, n => by simp [own, E.ns, own_length a, own_length b]
  | .ite d a b, o, n => by simp [own, E.ns, own_length d, own_length a, own_length b]

/-- the sites of the funs -/
def funs : E → Nat → List Nat
  | .num _, _ => []
  | .name _, _ => []
  | .plus a b, n => funs a n ++ funs b (n + a.ns)
  | .lt _ a b, n => funs a (n + 1) ++ funs b (n + 1 + a.ns)
  | .fn _ b, n => n :: funs b (n + 1)
  | .call a b, n => funs a n ++ funs b (n + a.ns)
  | .ite d a b, n => funs d n ++ (funs a (n + d.ns) ++ funs b (n + d.ns + a.ns))

mutual
inductive Val where
  | int (n : Nat)
  | clo (k : Nat) (b : E) (s : Nat) (r : Env) (y : Nat)
inductive Env where
  | nil
  | cons (k a s : Nat) (v : Val) (r : Env)
end
/-- a name's binding (activation, site) and what it is bound to -/
def Env.get : Env → Nat → Option (Nat × Nat × Val)
  | .nil, _ => none
  | .cons k a s v r, j => if j = k then some (a, s, v) else r.get j
def Env.sc (r : Env) : Sc := fun k => (r.get k).map fun p => p.2.1
theorem Env.sc_cons (k a s : Nat) (v : Val) (r : Env) : (Env.cons k a s v r).sc = r.sc.set k s := by
  funext j
  unfold Env.sc Sc.set
  rw [Env.get]
  by_cases h : j = k
  · rw [if_pos h, if_pos h] <;> rfl
  · rw [if_neg h, if_neg h]
theorem Env.sc_nil : Env.nil.sc = fun _ => none := rfl

/-- what happens in a run -/
inductive Ev where
  | act (s y : Nat)
  | bind (a s : Nat) (v : Val)
  | look (h a s : Nat)
  | made (s : Nat)

inductive Out where
  | number | function | still
  deriving DecidableEq
inductive Res where
  | val (v : Val)
  | out (o : Out)

def Ev.isAct : Ev → Bool
  | .act _ _ => true
  | _ => false
/-- how many activations have begun -/
def nact (l : List Ev) : Nat := (l.filter Ev.isAct).length
theorem nact_nil : nact [] = 0 := rfl
theorem nact_append (l m : List Ev) : nact (l ++ m) = nact l + nact m := by simp [nact, List.filter_append]
theorem nact_act (s y : Nat) (l : List Ev) : nact (.act s y :: l) = nact l + 1 := by simp [nact, List.filter, Ev.isAct]
theorem nact_bind (a s : Nat) (v : Val) (l : List Ev) : nact (.bind a s v :: l) = nact l := by simp [nact, List.filter, Ev.isAct]
theorem nact_look (h a s : Nat) (l : List Ev) : nact (.look h a s :: l) = nact l := by simp [nact, List.filter, Ev.isAct]
theorem nact_made (s : Nat) (l : List Ev) : nact (.made s :: l) = nact l := by simp [nact, List.filter, Ev.isAct]

/-- R e n r h na left res t: e, whose sites begin at n, done in activation h with the names r, where na activations stand and left more may begin,
    comes to res, and t happens -/
inductive R : E → Nat → Env → Nat → Nat → Nat → Res → List Ev → Prop where
  | num {m n r h na left} : R (.num m) n r h na left (.val (.int m)) []
  | name {k n r h na left a s v} (g : r.get k = some (a, s, v)) : R (.name k) n r h na left (.val v) [.look h a s]
  | fn {k b n r h na left} : R (.fn k b) n r h na left (.val (.clo k b n r h)) [.made n]
  | ltS {k a b n r h na left o t} (x : R a (n + 1) r h na left (.out o) t) : R (.lt k a b) n r h na left (.out o) t
  | lt {k a b n r h na left v t res u} (x : R a (n + 1) r h na left (.val v) t)
      (y : R b (n + 1 + a.ns) (.cons k h n v r) h (na + nact t) (left - nact t) res u) : R (.lt k a b) n r h na left res (t ++ .bind h n v :: u)
  | plusS1 {a b n r h na left o t} (x : R a n r h na left (.out o) t) : R (.plus a b) n r h na left (.out o) t
  | plusS2 {a b n r h na left v t o u} (x : R a n r h na left (.val v) t)
      (y : R b (n + a.ns) r h (na + nact t) (left - nact t) (.out o) u) : R (.plus a b) n r h na left (.out o) (t ++ u)
  | plus {a b n r h na left i t j u} (x : R a n r h na left (.val (.int i)) t)
      (y : R b (n + a.ns) r h (na + nact t) (left - nact t) (.val (.int j)) u) : R (.plus a b) n r h na left (.val (.int ((i + j) % 1000))) (t ++ u)
  | plusF {a b n r h na left v t w u} (x : R a n r h na left (.val v) t)
      (y : R b (n + a.ns) r h (na + nact t) (left - nact t) (.val w) u) (f : (∃ k c s q z, v = .clo k c s q z) ∨ ∃ k c s q z, w = .clo k c s q z) :
      R (.plus a b) n r h na left (.out .number) (t ++ u)
  | iteS {c a b n r h na left o t} (x : R c n r h na left (.out o) t) : R (.ite c a b) n r h na left (.out o) t
  | iteF {c a b n r h na left k d s q z t} (x : R c n r h na left (.val (.clo k d s q z)) t) : R (.ite c a b) n r h na left (.out .number) t
  | iteT {c a b n r h na left i t res u} (x : R c n r h na left (.val (.int i)) t) (hi : i ≠ 0)
      (y : R a (n + c.ns) r h (na + nact t) (left - nact t) res u) : R (.ite c a b) n r h na left res (t ++ u)
  | iteE {c a b n r h na left t res u} (x : R c n r h na left (.val (.int 0)) t)
      (y : R b (n + c.ns + a.ns) r h (na + nact t) (left - nact t) res u) : R (.ite c a b) n r h na left res (t ++ u)
  | callS1 {a b n r h na left o t} (x : R a n r h na left (.out o) t) : R (.call a b) n r h na left (.out o) t
  | callS2 {a b n r h na left v t o u} (x : R a n r h na left (.val v) t)
      (y : R b (n + a.ns) r h (na + nact t) (left - nact t) (.out o) u) : R (.call a b) n r h na left (.out o) (t ++ u)
  | callF {a b n r h na left i t w u} (x : R a n r h na left (.val (.int i)) t)
      (y : R b (n + a.ns) r h (na + nact t) (left - nact t) (.val w) u) : R (.call a b) n r h na left (.out .function) (t ++ u)
  | callL {a b n r h na left k c s q z t w u} (x : R a n r h na left (.val (.clo k c s q z)) t)
      (y : R b (n + a.ns) r h (na + nact t) (left - nact t) (.val w) u) (hl : left - nact t - nact u = 0) : R (.call a b) n r h na left (.out .still) (t ++ u)
  | call {a b n r h na left k c s q z t w u res p} (x : R a n r h na left (.val (.clo k c s q z)) t)
      (y : R b (n + a.ns) r h (na + nact t) (left - nact t) (.val w) u) (hl : left - nact t - nact u ≠ 0)
      (d : R c (s + 1) (.cons k (na + nact t + nact u) s w q) (na + nact t + nact u) (na + nact t + nact u + 1) (left - nact t - nact u - 1) res p) :
      R (.call a b) n r h na left res (t ++ u ++ .act s z :: .bind (na + nact t + nact u) s w :: p)

/-- never more than may begin -/
theorem R.le {e n r h na left res t} (x : R e n r h na left res t) : nact t ≤ left := by
  induction x with
  | num => exact Nat.zero_le _
  | name => exact Nat.zero_le _
  | fn => exact Nat.zero_le _
  | ltS _ ih => exact ih
  | lt _ _ i1 i2 => rw [nact_append, nact_bind]; omega
  | plusS1 _ ih => exact ih
  | plusS2 _ _ i1 i2 => rw [nact_append]; omega
  | plus _ _ i1 i2 => rw [nact_append]; omega
  | plusF _ _ _ i1 i2 => rw [nact_append]; omega
  | iteS _ ih => exact ih
  | iteF _ ih => exact ih
  | iteT _ _ _ i1 i2 => rw [nact_append]; omega
  | iteE _ _ i1 i2 => rw [nact_append]; omega
  | callS1 _ ih => exact ih
  | callS2 _ _ i1 i2 => rw [nact_append]; omega
  | callF _ _ i1 i2 => rw [nact_append]; omega
  | callL _ _ _ i1 i2 => rw [nact_append]; omega
  | call _ _ hl _ i1 i2 i3 => rw [nact_append, nact_append, nact_act, nact_bind]; omega

/-- one run, one end -/
theorem R.det {e n r h na left res t} (x : R e n r h na left res t) : ∀ {res' t'}, R e n r h na left res' t' → res = res' ∧ t = t' := by
  induction x with
  | num => intro _ _ y; cases y; exact ⟨rfl, rfl⟩
  | name g => intro _ _ y; cases y with | name g' => rw [g] at g'; cases g'; exact ⟨rfl, rfl⟩
  | fn => intro _ _ y; cases y; exact ⟨rfl, rfl⟩
  | ltS _ ih =>
    intro _ _ y
    cases y with
    | ltS y1 => obtain ⟨e1, e2⟩ := ih y1; cases e1; cases e2; exact ⟨rfl, rfl⟩
    | lt y1 y2 => obtain ⟨e1, e2⟩ := ih y1; cases e1
  | lt _ _ i1 i2 =>
    intro _ _ y
    cases y with
    | ltS y1 => obtain ⟨e1, e2⟩ := i1 y1; cases e1
    | lt y1 y2 => obtain ⟨e1, e2⟩ := i1 y1; cases e1; cases e2; obtain ⟨e3, e4⟩ := i2 y2; cases e3; cases e4; exact ⟨rfl, rfl⟩
  | plusS1 _ ih =>
    intro _ _ y
    cases y with
    | plusS1 y1 => obtain ⟨e1, e2⟩ := ih y1; cases e1; cases e2; exact ⟨rfl, rfl⟩
    | plusS2 y1 => obtain ⟨e1, e2⟩ := ih y1; cases e1
    | plus y1 => obtain ⟨e1, e2⟩ := ih y1; cases e1
    | plusF y1 => obtain ⟨e1, e2⟩ := ih y1; cases e1
  | plusS2 _ _ i1 i2 =>
    intro _ _ y
    cases y with
    | plusS1 y1 => obtain ⟨e1, e2⟩ := i1 y1; cases e1
    | plusS2 y1 y2 => obtain ⟨e1, e2⟩ := i1 y1; cases e1; cases e2; obtain ⟨e3, e4⟩ := i2 y2; cases e3; cases e4; exact ⟨rfl, rfl⟩
    | plus y1 y2 => obtain ⟨e1, e2⟩ := i1 y1; cases e1; cases e2; obtain ⟨e3, e4⟩ := i2 y2; cases e3
    | plusF y1 y2 => obtain ⟨e1, e2⟩ := i1 y1; cases e1; cases e2; obtain ⟨e3, e4⟩ := i2 y2; cases e3
  | plus _ _ i1 i2 =>
    intro _ _ y
    cases y with
    | plusS1 y1 => obtain ⟨e1, e2⟩ := i1 y1; cases e1
    | plusS2 y1 y2 => obtain ⟨e1, e2⟩ := i1 y1; cases e1; cases e2; obtain ⟨e3, e4⟩ := i2 y2; cases e3
    | plus y1 y2 => obtain ⟨e1, e2⟩ := i1 y1; cases e1; cases e2; obtain ⟨e3, e4⟩ := i2 y2; cases e3; cases e4; exact ⟨rfl, rfl⟩
    | plusF y1 y2 f =>
      obtain ⟨e1, e2⟩ := i1 y1; cases e1; cases e2; obtain ⟨e3, e4⟩ := i2 y2; cases e3
      rcases f with ⟨_, _, _, _, _, f⟩ | ⟨_, _, _, _, _, f⟩ <;> cases f
  | plusF _ _ f i1 i2 =>
    intro _ _ y
    cases y with
    | plusS1 y1 => obtain ⟨e1, e2⟩ := i1 y1; cases e1
    | plusS2 y1 y2 => obtain ⟨e1, e2⟩ := i1 y1; cases e1; cases e2; obtain ⟨e3, e4⟩ := i2 y2; cases e3
    | plus y1 y2 =>
      obtain ⟨e1, e2⟩ := i1 y1; cases e1; cases e2; obtain ⟨e3, e4⟩ := i2 y2; cases e3
      rcases f with ⟨_, _, _, _, _, f⟩ | ⟨_, _, _, _, _, f⟩ <;> cases f
    | plusF y1 y2 _ => obtain ⟨e1, e2⟩ := i1 y1; cases e1; cases e2; obtain ⟨e3, e4⟩ := i2 y2; cases e3; cases e4; exact ⟨rfl, rfl⟩
  | iteS _ ih =>
    intro _ _ y
    cases y with
    | iteS y1 => obtain ⟨e1, e2⟩ := ih y1; cases e1; cases e2; exact ⟨rfl, rfl⟩
    | iteF y1 => obtain ⟨e1, e2⟩ := ih y1; cases e1
    | iteT y1 => obtain ⟨e1, e2⟩ := ih y1; cases e1
    | iteE y1 => obtain ⟨e1, e2⟩ := ih y1; cases e1
  | iteF _ ih =>
    intro _ _ y
    cases y with
    | iteS y1 => obtain ⟨e1, e2⟩ := ih y1; cases e1
    | iteF y1 => obtain ⟨e1, e2⟩ := ih y1; cases e1; cases e2; exact ⟨rfl, rfl⟩
    | iteT y1 => obtain ⟨e1, e2⟩ := ih y1; cases e1
    | iteE y1 => obtain ⟨e1, e2⟩ := ih y1; cases e1
  | iteT _ hi _ i1 i2 =>
    intro _ _ y
    cases y with
    | iteS y1 => obtain ⟨e1, e2⟩ := i1 y1; cases e1
    | iteF y1 => obtain ⟨e1, e2⟩ := i1 y1; cases e1
    | iteT y1 _ y2 => obtain ⟨e1, e2⟩ := i1 y1; cases e1; cases e2; obtain ⟨e3, e4⟩ := i2 y2; cases e3; cases e4; exact ⟨rfl, rfl⟩
    | iteE y1 y2 => obtain ⟨e1, e2⟩ := i1 y1; cases e1; exact absurd rfl hi
  | iteE _ _ i1 i2 =>
    intro _ _ y
    cases y with
    | iteS y1 => obtain ⟨e1, e2⟩ := i1 y1; cases e1
    | iteF y1 => obtain ⟨e1, e2⟩ := i1 y1; cases e1
    | iteT y1 hi y2 => obtain ⟨e1, e2⟩ := i1 y1; cases e1; exact absurd rfl hi
    | iteE y1 y2 => obtain ⟨e1, e2⟩ := i1 y1; cases e1; cases e2; obtain ⟨e3, e4⟩ := i2 y2; cases e3; cases e4; exact ⟨rfl, rfl⟩
  | callS1 _ ih =>
    intro _ _ y
    cases y with
    | callS1 y1 => obtain ⟨e1, e2⟩ := ih y1; cases e1; cases e2; exact ⟨rfl, rfl⟩
    | callS2 y1 => obtain ⟨e1, e2⟩ := ih y1; cases e1
    | callF y1 => obtain ⟨e1, e2⟩ := ih y1; cases e1
    | callL y1 => obtain ⟨e1, e2⟩ := ih y1; cases e1
    | call y1 => obtain ⟨e1, e2⟩ := ih y1; cases e1
  | callS2 _ _ i1 i2 =>
    intro _ _ y
    cases y with
    | callS1 y1 => obtain ⟨e1, e2⟩ := i1 y1; cases e1
    | callS2 y1 y2 => obtain ⟨e1, e2⟩ := i1 y1; cases e1; cases e2; obtain ⟨e3, e4⟩ := i2 y2; cases e3; cases e4; exact ⟨rfl, rfl⟩
    | callF y1 y2 => obtain ⟨e1, e2⟩ := i1 y1; cases e1; cases e2; obtain ⟨e3, e4⟩ := i2 y2; cases e3
    | callL y1 y2 => obtain ⟨e1, e2⟩ := i1 y1; cases e1; cases e2; obtain ⟨e3, e4⟩ := i2 y2; cases e3
    | call y1 y2 => obtain ⟨e1, e2⟩ := i1 y1; cases e1; cases e2; obtain ⟨e3, e4⟩ := i2 y2; cases e3
  | callF _ _ i1 i2 =>
    intro _ _ y
    cases y with
    | callS1 y1 => obtain ⟨e1, e2⟩ := i1 y1; cases e1
    | callS2 y1 y2 => obtain ⟨e1, e2⟩ := i1 y1; cases e1; cases e2; obtain ⟨e3, e4⟩ := i2 y2; cases e3
    | callF y1 y2 => obtain ⟨e1, e2⟩ := i1 y1; cases e1; cases e2; obtain ⟨e3, e4⟩ := i2 y2; cases e3; cases e4; exact ⟨rfl, rfl⟩
    | callL y1 y2 => obtain ⟨e1, e2⟩ := i1 y1; cases e1
    | call y1 y2 => obtain ⟨e1, e2⟩ := i1 y1; cases e1
  | callL _ _ hl i1 i2 =>
    intro _ _ y
    cases y with
    | callS1 y1 => obtain ⟨e1, e2⟩ := i1 y1; cases e1
    | callS2 y1 y2 => obtain ⟨e1, e2⟩ := i1 y1; cases e1; cases e2; obtain ⟨e3, e4⟩ := i2 y2; cases e3
    | callF y1 y2 => obtain ⟨e1, e2⟩ := i1 y1; cases e1
    | callL y1 y2 _ => obtain ⟨e1, e2⟩ := i1 y1; cases e1; cases e2; obtain ⟨e3, e4⟩ := i2 y2; cases e3; cases e4; exact ⟨rfl, rfl⟩
    | call y1 y2 hl' y3 => obtain ⟨e1, e2⟩ := i1 y1; cases e1; cases e2; obtain ⟨e3, e4⟩ := i2 y2; cases e3; cases e4; exact absurd hl hl'
  | call _ _ hl _ i1 i2 i3 =>
    intro _ _ y
    cases y with
    | callS1 y1 => obtain ⟨e1, e2⟩ := i1 y1; cases e1
    | callS2 y1 y2 => obtain ⟨e1, e2⟩ := i1 y1; cases e1; cases e2; obtain ⟨e3, e4⟩ := i2 y2; cases e3
    | callF y1 y2 => obtain ⟨e1, e2⟩ := i1 y1; cases e1
    | callL y1 y2 hl' => obtain ⟨e1, e2⟩ := i1 y1; cases e1; cases e2; obtain ⟨e3, e4⟩ := i2 y2; cases e3; cases e4; exact absurd hl' hl
    | call y1 y2 _ y3 =>
      obtain ⟨e1, e2⟩ := i1 y1; cases e1; cases e2; obtain ⟨e3, e4⟩ := i2 y2; cases e3; cases e4
      obtain ⟨e5, e6⟩ := i3 y3; cases e5; cases e6; exact ⟨rfl, rfl⟩

/-! ### every program has a run -/
mutual
/-- functions whose names are bound -/
def Val.Wf : Val → Prop
  | .int n => n < 1000
  | .clo k b _ r _ => k < 10 ∧ (∃ B, b.Wf (B ++ [k]) ∧ ∀ j ∈ B, ∃ p, r.get j = some p) ∧ r.Wf
def Env.Wf : Env → Prop
  | .nil => True
  | .cons _ _ _ v r => v.Wf ∧ r.Wf
end
theorem Env.Wf.get : ∀ {r : Env} {k : Nat} {p : Nat × Nat × Val}, r.Wf → r.get k = some p → p.2.2.Wf
  | .nil, _, _, _, h => by cases h
  | .cons j a s v r, k, p, w, h => by
    rw [Env.get] at h
    rw [Env.Wf] at w
    by_cases q : k = j
    · rw [if_pos q] at h; cases h; exact w.1
    · rw [if_neg q] at h; exact Env.Wf.get w.2 h
def Res.Wf : Res → Prop
  | .val v => v.Wf
  | .out _ => True
theorem bound_cons {r : Env} {B : List Nat} {k a s : Nat} {v : Val} (h : ∀ j ∈ B, ∃ p, r.get j = some p) : ∀ j ∈ B ++ [k], ∃ p, (Env.cons k a s v r).get j = some p := by
  intro j hj
  rw [Env.get]
  by_cases q : j = k
  · rw [if_pos q]; exact ⟨_, rfl⟩
  · rw [if_neg q]
    rcases List.mem_append.mp hj with z | z
    · exact h j z
    · exact absurd (List.mem_singleton.mp z) q
theorem R.all : ∀ (left : Nat) (e : E) (B : List Nat) (n : Nat) (r : Env) (h na : Nat), e.Wf B → (∀ j ∈ B, ∃ p, r.get j = some p) → r.Wf →
    ∃ res t, R e n r h na left res t ∧ res.Wf := by
  intro left
  induction left using Nat.strongRecOn with
  | _ left IH =>
  intro e
  induction e with
  | num m => intro B n r h na w _ _; exact ⟨_, _, .num, w⟩
  | name k =>
    intro B n r h na w hb hr
    obtain ⟨⟨a, s, v⟩, g⟩ := hb k w.2
    exact ⟨_, _, .name g, hr.get g⟩
  | fn k b ih =>
    intro B n r h na w hb hr
    exact ⟨_, _, .fn, by rw [Res.Wf, Val.Wf]; exact ⟨w.1, ⟨B, w.2, hb⟩, hr⟩⟩
  | lt k a b iha ihb =>
    intro B n r h na w hb hr
    obtain ⟨r1, t1, x, w1⟩ := iha B (n + 1) r h na w.2.1 hb hr
    cases r1 with
    | out o => exact ⟨_, _, .ltS x, trivial⟩
    | val v =>
      have hle := x.le
      by_cases hz : nact t1 = 0
      · obtain ⟨r2, t2, y, w2⟩ := ihb (B ++ [k]) (n + 1 + a.ns) (.cons k h n v r) h (na + nact t1) w.2.2 (bound_cons hb) (by rw [Env.Wf]; exact ⟨w1, hr⟩)
        exact ⟨_, _, .lt x (by rw [hz, Nat.sub_zero] at *; exact y), w2⟩
      · obtain ⟨r2, t2, y, w2⟩ := IH (left - nact t1) (by omega) b (B ++ [k]) (n + 1 + a.ns) (.cons k h n v r) h (na + nact t1) w.2.2 (bound_cons hb) (by rw [Env.Wf]; exact ⟨w1, hr⟩)
        exact ⟨_, _, .lt x y, w2⟩
  | plus a b iha ihb =>
    intro B n r h na w hb hr
    obtain ⟨r1, t1, x, w1⟩ := iha B n r h na w.1 hb hr
    cases r1 with
    | out o => exact ⟨_, _, .plusS1 x, trivial⟩
    | val v =>
      have hle := x.le
      obtain ⟨r2, t2, y, w2⟩ : ∃ r2 t2, R b (n + a.ns) r h (na + nact t1) (left - nact t1) r2 t2 ∧ r2.Wf := by
        by_cases hz : nact t1 = 0
        · obtain ⟨r2, t2, y, w2⟩ := ihb B (n + a.ns) r h (na + nact t1) w.2 hb hr
          exact ⟨r2, t2, by rw [hz, Nat.sub_zero] at *; exact y, w2⟩
        · exact IH (left - nact t1) (by omega) b B (n + a.ns) r h (na + nact t1) w.2 hb hr
      cases r2 with
      | out o => exact ⟨_, _, .plusS2 x y, trivial⟩
      | val v2 =>
        cases v with
        | clo k c s q z => exact ⟨_, _, .plusF x y (.inl ⟨_, _, _, _, _, rfl⟩), trivial⟩
        | int i =>
          cases v2 with
          | clo k c s q z => exact ⟨_, _, .plusF x y (.inr ⟨_, _, _, _, _, rfl⟩), trivial⟩
          | int j => exact ⟨_, _, .plus x y, by rw [Res.Wf, Val.Wf]; omega⟩
  | ite c a b ihc iha ihb =>
    intro B n r h na w hb hr
    obtain ⟨r1, t1, x, w1⟩ := ihc B n r h na w.1 hb hr
    cases r1 with
    | out o => exact ⟨_, _, .iteS x, trivial⟩
    | val v =>
      have hle := x.le
      cases v with
      | clo k c s q z => exact ⟨_, _, .iteF x, trivial⟩
      | int i =>
        by_cases hi : i = 0
        · subst hi
          obtain ⟨r2, t2, y, w2⟩ : ∃ r2 t2, R b (n + c.ns + a.ns) r h (na + nact t1) (left - nact t1) r2 t2 ∧ r2.Wf := by
            by_cases hz : nact t1 = 0
            · obtain ⟨r2, t2, y, w2⟩ := ihb B (n + c.ns + a.ns) r h (na + nact t1) w.2.2 hb hr
              exact ⟨r2, t2, by rw [hz, Nat.sub_zero] at *; exact y, w2⟩
            · exact IH (left - nact t1) (by omega) b B (n + c.ns + a.ns) r h (na + nact t1) w.2.2 hb hr
          exact ⟨_, _, .iteE x y, w2⟩
        · obtain ⟨r2, t2, y, w2⟩ : ∃ r2 t2, R a (n + c.ns) r h (na + nact t1) (left - nact t1) r2 t2 ∧ r2.Wf := by
            by_cases hz : nact t1 = 0
            · obtain ⟨r2, t2, y, w2⟩ := iha B (n + c.ns) r h (na + nact t1) w.2.1 hb hr
              exact ⟨r2, t2, by rw [hz, Nat.sub_zero] at *; exact y, w2⟩
            · exact IH (left - nact t1) (by omega) a B (n + c.ns) r h (na + nact t1) w.2.1 hb hr
          exact ⟨_, _, .iteT x hi y, w2⟩
  | call a b iha ihb =>
    intro B n r h na w hb hr
    obtain ⟨r1, t1, x, w1⟩ := iha B n r h na w.1 hb hr
    cases r1 with
    | out o => exact ⟨_, _, .callS1 x, trivial⟩
    | val v =>
      have hle := x.le
      obtain ⟨r2, t2, y, w2⟩ : ∃ r2 t2, R b (n + a.ns) r h (na + nact t1) (left - nact t1) r2 t2 ∧ r2.Wf := by
        by_cases hz : nact t1 = 0
        · obtain ⟨r2, t2, y, w2⟩ := ihb B (n + a.ns) r h (na + nact t1) w.2 hb hr
          exact ⟨r2, t2, by rw [hz, Nat.sub_zero] at *; exact y, w2⟩
        · exact IH (left - nact t1) (by omega) b B (n + a.ns) r h (na + nact t1) w.2 hb hr
      cases r2 with
      | out o => exact ⟨_, _, .callS2 x y, trivial⟩
      | val v2 =>
        cases v with
        | int i => exact ⟨_, _, .callF x y, trivial⟩
        | clo k c s q z =>
          by_cases hl : left - nact t1 - nact t2 = 0
          · exact ⟨_, _, .callL x y hl, trivial⟩
          · rw [Res.Wf, Val.Wf] at w1
            obtain ⟨_, ⟨B', wc, hb'⟩, hq⟩ := w1
            obtain ⟨r3, t3, d, w3⟩ := IH (left - nact t1 - nact t2 - 1) (by omega) c (B' ++ [k]) (s + 1) (.cons k (na + nact t1 + nact t2) s v2 q) (na + nact t1 + nact t2) (na + nact t1 + nact t2 + 1) wc (bound_cons hb') (by rw [Env.Wf]; exact ⟨w2, hq⟩)
            exact ⟨_, _, .call x y hl d, w3⟩

/-- a program's run -/
def Run (e : E) (most : Nat) (res : Res) (t : List Ev) : Prop := R e 0 .nil 0 1 most res t
theorem Run.all {e : E} (h : e.Wf []) (most : Nat) : ∃ res t, Run e most res t ∧ res.Wf :=
  R.all most e [] 0 .nil 0 1 h (fun _ hj => nomatch hj) (by rw [Env.Wf]; trivial)
end EW

/-! What the walks share: what is kept in the heap, trees in the heap, steps of a reading. -/
namespace EW
open PySem L2

/-- a natural number as a value -/
abbrev nV (k : Nat) : V := .int (k : Int)
/-! ### what is kept -/
def Tups (H H' : Hp) : Prop := ∀ a xs, H a = some (.tup xs) → H' a = some (.tup xs)
/-- all but what stands at M is kept -/
structure Kp (M : List Addr) (H H' : Hp) : Prop where
  keep : ∀ b o, H b = some o → b ∉ M → H' b = some o
  tup : Tups H H'
  there : ∀ b o, H b = some o → ∃ o', H' b = some o'
section
variable {M N : List Addr} {H H1 H2 : Hp} {a : Addr} {o u : HO}
theorem Kp.refl : Kp M H H := ⟨fun _ _ h _ => h, fun _ _ h => h, fun _ o h => ⟨o, h⟩⟩
theorem Kp.trans (x : Kp M H H1) (y : Kp M H1 H2) : Kp M H H2 :=
  ⟨fun b o h n => y.keep b o (x.keep b o h n) n, fun b xs h => y.tup b xs (x.tup b xs h), fun b o h => let ⟨o1, h1⟩ := x.there b o h; y.there b o1 h1⟩
theorem Kp.mono (x : Kp M H H1) (s : ∀ b ∈ M, b ∈ N) : Kp N H H1 := ⟨fun b o h n => x.keep b o h fun z => n (s b z), x.tup, x.there⟩
theorem Kp.up (x : Kp [] H H1) : Kp N H H1 := x.mono fun _ h => nomatch h
theorem Kp.new (h : H a = none) : Kp M H (upd H a o) :=
  ⟨fun b u e _ => by rw [upd_ne (ne_of_none e h)]; exact e, fun b xs e => by rw [upd_ne (ne_of_none e h)]; exact e, fun b u e => ⟨u, by rw [upd_ne (ne_of_none e h)]; exact e⟩⟩
theorem Kp.put (h : H a = some o) (nt : ∀ xs, o ≠ .tup xs) (m : a ∈ M) : Kp M H (upd H a u) :=
  ⟨fun b v e n => by rw [upd_ne (fun z => n (by rw [z]; exact m))]; exact e, fun b xs e => by rw [upd_ne (fun z => nt xs (by rw [z, h] at e; exact Option.some.inj e))]; exact e,
   fun b v e => by
    by_cases z : b = a
    · exact ⟨u, by rw [z]; exact upd_same⟩
    · exact ⟨v, by rw [upd_ne z]; exact e⟩⟩
theorem Kp.free (x : Kp M H H1) {p : Addr} (h : H1 p = none) : H p = none := by
  cases e : H p with
  | none => rfl
  | some o =>
    obtain ⟨o', e'⟩ := x.there p o e
    rw [h] at e'
    cases e'
theorem Kp.same (x : Kp [] H H1) : Same H H1 := fun b o h => x.keep b o h (fun z => nomatch z)
theorem Kp.seqL (x : Kp M H H1) {K : PySem.W.Frag} {xs : List V} (h : SqL K H a xs) (n : a ∉ M) : SqL K H1 a xs := by
  rcases h with h | h
  · rcases h with h | ⟨o, h⟩
    · exact .inl (.inl (x.keep _ _ h n))
    · exact .inl (.inr ⟨o, x.keep _ _ h n⟩)
  · exact .inr h
theorem Kp.seqT (x : Kp [] H H1) {K : PySem.W.Frag} {xs : List V} (h : SqT K H a xs) : SqT K H1 a xs := by
  rcases h with h | h
  · rcases h with h | ⟨o, h⟩
    · exact .inl (.inl (x.tup _ _ h))
    · exact .inl (.inr ⟨o, x.keep _ _ h (fun z => nomatch z)⟩)
  · exact .inr h
/-- a new object: the heap is from here on a letter -/
theorem new_o {Q : Hp → Prop} (hp : H a = none) (k : ∀ H', Kp [] H H' → H' a = some o → Q H') : Q (upd H a o) := k _ (Kp.new hp) upd_same
theorem put_o {Q : Hp → Prop} (hp : H a = some o) (nt : ∀ xs, o ≠ .tup xs) (k : ∀ H', Kp [a] H H' → H' a = some u → Q H') : Q (upd H a u) := k _ (Kp.put hp nt List.mem_cons_self) upd_same
end

/-! ### trees -/
def RE (H : Hp) : E → V → Prop
  | .num n, v => ∃ p, v = .ref p ∧ H p = some (.tup [.str "num", .int n])
  | .name k, v => ∃ p, v = .ref p ∧ H p = some (.tup [.str "name", .int k])
  | .plus a b, v => ∃ p x y, v = .ref p ∧ H p = some (.tup [.str "plus", x, y]) ∧ RE H a x ∧ RE H b y
  | .lt k a b, v => ∃ p x y, v = .ref p ∧ H p = some (.tup [.str "let", .int k, x, y]) ∧ RE H a x ∧ RE H b y
  | .fn k b, v => ∃ p y, v = .ref p ∧ H p = some (.tup [.str "fun", .int k, y]) ∧ RE H b y
  | .call a b, v => ∃ p x y, v = .ref p ∧ H p = some (.tup [.str "call", x, y]) ∧ RE H a x ∧ RE H b y
  | .ite c a b, v => ∃ p z x y, v = .ref p ∧ H p = some (.tup [.str "if", z, x, y]) ∧ RE H c z ∧ RE H a x ∧ RE H b y
theorem RE.mono {H H' : Hp} (t : Tups H H') : ∀ {e : E} {v : V}, RE H e v → RE H' e v
  | .num _, _, ⟨p, e, h⟩ => ⟨p, e, t _ _ h⟩
  | .name _, _, ⟨p, e, h⟩ => ⟨p, e, t _ _ h⟩
  | .plus _ _, _, ⟨p, x, y, e, h, a, b⟩ => ⟨p, x, y, e, t _ _ h, RE.mono t a, RE.mono t b⟩
  | .lt _ _ _, _, ⟨p, x, y, e, h, a, b⟩ => ⟨p, x, y, e, t _ _ h, RE.mono t a, RE.mono t b⟩
  | .fn _ _, _, ⟨p, y, e, h, b⟩ => ⟨p, y, e, t _ _ h, RE.mono t b⟩
  | .call _ _, _, ⟨p, x, y, e, h, a, b⟩ => ⟨p, x, y, e, t _ _ h, RE.mono t a, RE.mono t b⟩
  | .ite _ _ _, _, ⟨p, z, x, y, e, h, c, a, b⟩ => ⟨p, z, x, y, e, t _ _ h, RE.mono t c, RE.mono t a, RE.mono t b⟩

/-! ### what a def is known by -/
/-- the def x of the module keeps the promise sp, at level k -/
def Has (P : Program) (w : World) (K : PySem.W.Frag) (mg : Str → Option Value) (base : Heap) (x : Str) (ps : List Str) (k : Nat) (sp : Sp) : Prop :=
  ∃ (f : Addr) (fd : FuncData), FnOk P w K mg base CX0 k f fd ps sp ∧ mg x = some (.ref f) ∧ PySem.W.keepIn K (.ref f) = true ∧ Binds K fd ps []
/-- the method m of the class at C -/
def HasM (P : Program) (w : World) (K : PySem.W.Frag) (mg : Str → Option Value) (base : Heap) (C : Addr) (m : Str) (ps : List Str) (k : Nat) (sp : Sp) : Prop :=
  ∃ (f : Addr) (fd : FuncData), FnOk P w K mg base CX0 k f fd ps sp ∧ Meth K C m f ∧ Binds K fd ps []
/-- the class at C by its __init__ -/
def HasC (P : Program) (w : World) (K : PySem.W.Frag) (mg : Str → Option Value) (base : Heap) (C : Addr) (ps : List Str) (k : Nat) (sp : Sp) : Prop :=
  ∃ (f : Addr) (fd : FuncData), FnOk P w K mg base CX0 k f fd ps sp ∧ Mk K C f ∧ Binds K fd ps []
/-- where a def stands -/
structure At (K : PySem.W.Frag) (mg : Str → Option Value) (x : Str) (st : Stmt) (ps : List Str) (f : Addr) (fd : FuncData) : Prop where
  F : Fun K x x st f fd
  m : mg x = some (.ref f)
  b : Binds K fd ps []
structure AtM (K : PySem.W.Frag) (C : Addr) (x q : Str) (st : Stmt) (ps : List Str) (f : Addr) (fd : FuncData) : Prop where
  F : Fun K x q st f fd
  m : Meth K C x f
  b : Binds K fd ps []
structure AtC (K : PySem.W.Frag) (C : Addr) (q : Str) (st : Stmt) (ps : List Str) (f : Addr) (fd : FuncData) : Prop where
  F : Fun K "__init__" q st f fd
  m : Mk K C f
  b : Binds K fd ps []

/-! ### steps of a reading -/
section
variable {D : Ends} {σ : L2.St} {H : Hp} {t u : TS} {te ta tb tc tv : TE} {g : TG} {Q : VK} {v x y : V} {i j : Nat} {r : R2} {K : PySem.W.Frag} {a C dx : Addr} {fs : List (Str × V)} {f : Str} {tt tt2 : TT} {xs : List V}
theorem at_st {σ' : L2.St} (e : σ = σ') (h : t D σ' H) : t D σ H := by rw [e]; exact h
theorem rd_seq (h : t { D with nx := u D } σ H) : tSeq t u D σ H := h
theorem rd_next (h : D.nx σ H) : tNext D σ H := h
theorem rd_asg (h : te σ H fun x H1 => g x σ H1 D.nx) : tAsg te g D σ H := h
theorem rd_name {Q : L2.St → Hp → Prop} (h : Q (σ.set i (some v)) H) : gName i v σ H Q := h
theorem rd_ret (h : te σ H D.rt) : tRet te D σ H := h
theorem rd_drop (h : te σ H fun _ H1 => D.nx σ H1) : tDrop te D σ H := h
theorem rd_if (h : tt σ H fun b H1 => if b = true then t D σ H1 else u D σ H1) : tIfS tt t u D σ H := h
/-- an if whose else (or what stands behind) is shown once, for all heaps of J -/
theorem rd_ifJ (J : Hp → Prop) (hJ : ∀ H', J H' → u D σ H') (h : ∀ Z : Hp → Prop, (∀ H', J H' → Z H') → tt σ H fun b H1 => if b = true then t D σ H1 else Z H1) : tIfS tt t u D σ H := h (fun H' => u D σ H') hJ
theorem rd_asgJ (J : V → Hp → Prop) (hJ : ∀ v H', J v H' → g v σ H' D.nx) (h : ∀ Z : VK, (∀ v H', J v H' → Z v H') → te σ H Z) : tAsg te g D σ H := h (fun v H' => g v σ H' D.nx) hJ
theorem rd_ifEJ (J : V → Hp → Prop) (hJ : ∀ v H', J v H' → Q v H') (h : ∀ Z : VK, (∀ v H', J v H' → Z v H') → tt σ H fun c H1 => if c = true then ta σ H1 Z else tb σ H1 Z) : tIf tt ta tb σ H Q := h Q hJ
theorem rd_var (e : σ[i]? = some (some v)) (h : Q v H) : tVar i σ H Q := ⟨v, e, h⟩
theorem rd_c (h : Q v H) : tC v σ H Q := h
theorem rd_op (h : ta σ H fun x H1 => tb σ H1 fun y H2 => r x y H2 Q) : tOp r ta tb σ H Q := h
theorem rd_I0 {g : Int → Int → V} {m n : Int} (h : Q (g m n) H) : rI0 g (.int m) (.int n) H Q := ⟨m, n, rfl, rfl, h⟩
theorem rd_I {P : Int → Int → Prop} {g : Int → Int → V} {m n : Int} (c : P m n) (h : Q (g m n) H) : rI P g (.int m) (.int n) H Q := ⟨m, n, rfl, rfl, c, h⟩
theorem rd_eq (c : scal x y = true) (h : Q (.bl (decide (x = y))) H) : rEq x y H Q := ⟨c, h⟩
theorem rd_ne (c : scal x y = true) (h : Q (.bl (!decide (x = y))) H) : rNe x y H Q := ⟨c, h⟩
theorem rd_test {Q : Bool → Hp → Prop} (h : te σ H fun x H' => ∃ k, x = .bl k ∧ Q k H') : tTest te σ H Q := h
theorem rd_tB {Q : Bool → Hp → Prop} (h : te σ H fun x H' => ∃ k, x = .bl k ∧ Q k H') : tB te σ H Q := h
theorem rd_not {Q : Bool → Hp → Prop} (h : tt σ H fun c H1 => Q (!c) H1) : tNot tt σ H Q := h
theorem rd_and {Q : Bool → Hp → Prop} (h : tt σ H fun c H1 => if c = true then tt2 σ H1 Q else Q false H1) : tAnd tt tt2 σ H Q := h
theorem rd_or {Q : Bool → Hp → Prop} (h : tt σ H fun c H1 => if c = true then Q true H1 else tt2 σ H1 Q) : tOr tt tt2 σ H Q := h
theorem rd_ifE (h : tt σ H fun c H1 => if c = true then ta σ H1 Q else tb σ H1 Q) : tIf tt ta tb σ H Q := h
theorem rd_notV (h : ta σ H fun x H1 => ∃ c, x = .bl c ∧ Q (.bl (!c)) H1) : tNotV ta σ H Q := h
theorem rd_andV (h : ta σ H fun x H1 => ∃ c, x = .bl c ∧ if c = true then tb σ H1 Q else Q (.bl false) H1) : tAndV ta tb σ H Q := h
theorem rd_orV (h : ta σ H fun x H1 => ∃ c, x = .bl c ∧ if c = true then Q (.bl true) H1 else tb σ H1 Q) : tOrV ta tb σ H Q := h
theorem rd_bl {P : Bool → Prop} {b : Bool} (h : P b) : ∃ k, V.bl b = V.bl k ∧ P k := ⟨b, rfl, h⟩
theorem rd_ixL {p : Addr} {n : Int} (s : SqL K H p xs) (e : atI xs n = some v) (h : Q v H) : rIxL K (.ref p) (.int n) H Q := ⟨p, xs, n, v, rfl, rfl, s, e, h⟩
theorem rd_ixT {p : Addr} {n : Int} (s : H p = some (.tup xs)) (e : atI xs n = some v) (h : Q v H) : rIxT K (.ref p) (.int n) H Q := ⟨p, xs, n, v, rfl, rfl, SqT.of s, e, h⟩
theorem rd_cons {tr : TA} {Q : List V → Hp → Prop} (h : ta σ H fun x H1 => tr σ H1 fun xs H2 => Q (x :: xs) H2) : tCons ta tr σ H Q := h
theorem rd_nil {Q : List V → Hp → Prop} (h : Q [] H) : tNil σ H Q := h
theorem rd_cb {r : List V → Hp → VK → Prop} {t : TA} (h : t σ H fun vs H1 => r vs H1 Q) : tCB r t σ H Q := h
theorem rd_call {sp : Sp} {t : TA} {EE : XK} (h : t σ H fun vs H1 => sp (vs ++ []) H1 Q EE) : tCall sp [] EE t σ H Q := h
theorem rd_sub {to ti : TE} {ts : TSet} {Q : L2.St → Hp → Prop} (h : to σ H fun o H1 => ti σ H1 fun i H2 => ts o i v H2 fun H3 => Q σ H3) : gSub to ti ts v σ H Q := h
theorem rd_setL {p : Addr} {n : Int} {Q : Hp → Prop} (s : H p = some (.lst xs)) (e : ixN xs.length n = some j) (h : ∀ H', Kp [p] H H' → H' p = some (.lst (xs.set j v)) → Q H') : rSetL (.ref p) (.int n) v H Q :=
  ⟨p, xs, n, j, rfl, rfl, s, e, put_o s (fun _ z => nomatch z) h⟩
def FL (K : PySem.W.Frag) (f : Str) (x : V) (H : Hp) (Q : VK) : Prop := ∃ a C dx fs v, x = .ref a ∧ H a = some (.ins C dx fs) ∧ Cls K C ∧ NoAttr K C f ∧ fs.lookup f = some v ∧ Q v H
theorem rd_fl (h : ta σ H fun x H1 => FL K f x H1 Q) : tFld K ta f σ H Q := h
theorem rd_flx {p : Addr} (s : H p = some (.ins C dx fs)) (cl : Cls K C) (na : NoAttr K C f) (l : fs.lookup f = some v) (h : Q v H) : FL K f (.ref p) H Q := ⟨p, C, dx, fs, v, rfl, s, cl, na, l, h⟩
def ME (C : Addr) (m : Str) (sp : Sp) (t : TA) (EE : XK) (σ : L2.St) (x : V) (H : Hp) (Q : VK) : Prop := ∃ a dx fs, x = .ref a ∧ H a = some (.ins C dx fs) ∧ fs.lookup m = none ∧ t σ H fun vs H2 => sp (x :: (vs ++ [])) H2 Q EE
theorem rd_meth {sp : Sp} {t : TA} {EE : XK} {m : Str} (h : ta σ H fun x H1 => ME C m sp t EE σ x H1 Q) : tMeth C m sp [] EE ta t σ H Q := h
theorem rd_mex {sp : Sp} {t : TA} {EE : XK} {m : Str} {p : Addr} (s : H p = some (.ins C dx fs)) (l : fs.lookup m = none) (h : t σ H fun vs H2 => sp (.ref p :: (vs ++ [])) H2 Q EE) : ME C m sp t EE σ (.ref p) H Q := ⟨p, dx, fs, rfl, s, l, h⟩
def SF (K : PySem.W.Frag) (f : Str) (x y : V) (D : Ends) (σ : L2.St) (H : Hp) : Prop := ∃ a C dx fs, x = .ref a ∧ H a = some (.ins C dx fs) ∧ Cls K C ∧ NoAttr K C f ∧ fs.length < 1000 ∧ D.nx σ (upd H a (.ins C dx (putF f y fs)))
theorem rd_sfld (h : tv σ H fun y H1 => ta σ H1 fun x H2 => SF K f x y D σ H2) : sFld K ta tv f D σ H := h
theorem rd_sfx {p : Addr} (s : H p = some (.ins C dx fs)) (cl : Cls K C) (na : NoAttr K C f) (l : fs.length < 1000) (h : ∀ H', Kp [p] H H' → H' p = some (.ins C dx (putF f y fs)) → D.nx σ H') : SF K f (.ref p) y D σ H :=
  ⟨p, C, dx, fs, rfl, s, cl, na, l, put_o s (fun _ z => nomatch z) h⟩
def MK (C : Addr) (sp : Sp) (EE : XK) (vs : List V) (H : Hp) (Q : VK) : Prop := ∀ x dx, H x = none → H dx = none → dx ≠ x → sp (.ref x :: (vs ++ [])) (upd (upd H dx (.own x)) x (.ins C dx [])) (fun v H2 => v = .non ∧ Q (.ref x) H2) EE
theorem rd_make {sp : Sp} {t : TA} {EE : XK} (h : t σ H fun vs H1 => MK C sp EE vs H1 Q) : tMake C sp [] EE t σ H Q := h
theorem rd_mkx {sp : Sp} {EE : XK} {vs : List V} (h : ∀ x dx H', H x = none → H dx = none → dx ≠ x → Kp [] H H' → H' x = some (.ins C dx []) → sp (.ref x :: (vs ++ [])) H' (fun v H2 => v = .non ∧ Q (.ref x) H2) EE) : MK C sp EE vs H Q :=
  fun x dx nx nd ne => h x dx _ nx nd ne ((Kp.new nd).trans (Kp.new (by rw [upd_ne ne.symm]; exact nx))) upd_same
def BM (K : PySem.W.Frag) (T : String) (r : V → List V → Hp → VK → Prop) (t : TA) (σ : L2.St) (x : V) (H : Hp) (Q : VK) : Prop := tyV K T x H ∧ t σ H fun xs H2 => r x xs H2 Q
theorem rd_bm {T : String} {r : V → List V → Hp → VK → Prop} {t : TA} (h : ta σ H fun x H1 => BM K T r t σ x H1 Q) : tBM K T r ta t σ H Q := h
theorem rd_bmL {r : V → List V → Hp → VK → Prop} {t : TA} {l : Addr} (s : SqL K H l xs) (h : t σ H fun ys H2 => r (.ref l) ys H2 Q) : BM K "list" r t σ (.ref l) H Q := ⟨.inl ⟨rfl, xs, s⟩, h⟩
def BM0 (K : PySem.W.Frag) (T : String) (r : V → List V → Hp → VK → Prop) (x : V) (H : Hp) (Q : VK) : Prop := tyV K T x H ∧ r x [] H Q
theorem rd_bm0 {T : String} {r : V → List V → Hp → VK → Prop} (h : ta σ H fun x H1 => BM0 K T r x H1 Q) : tBM0 K T r ta σ H Q := h
theorem rd_bm0L {r : V → List V → Hp → VK → Prop} {l : Addr} (s : SqL K H l xs) (h : r (.ref l) [] H Q) : BM0 K "list" r (.ref l) H Q := ⟨.inl ⟨rfl, xs, s⟩, h⟩
theorem rd_app {l : Addr} (s : H l = some (.lst xs)) (z : xs.length < 1000000) (h : ∀ H', Kp [l] H H' → H' l = some (.lst (xs ++ [y])) → Q .non H') : rAppend (.ref l) [y] H Q :=
  ⟨l, xs, y, rfl, rfl, s, Nat.lt_of_lt_of_le z (by decide), put_o s (fun _ z => nomatch z) h⟩
theorem rd_ext {l b : Addr} {zs : List V} (s : H l = some (.lst xs)) (s2 : H b = some (.lst zs)) (z : xs.length + zs.length < 1000000) (h : ∀ H', Kp [l] H H' → H' l = some (.lst (xs ++ zs)) → Q .non H') : rExtend (.ref l) [.ref b] H Q :=
  ⟨l, b, xs, zs, rfl, rfl, s, s2, Nat.le_of_lt (Nat.lt_of_lt_of_le z (by decide)), put_o s (fun _ z => nomatch z) h⟩
theorem rd_pop {l : Addr} (s : H l = some (.lst (xs ++ [y]))) (h : ∀ H', Kp [l] H H' → H' l = some (.lst xs) → Q y H') : rPop (.ref l) [] H Q :=
  ⟨l, xs ++ [y], y, rfl, rfl, s, by simp, put_o (u := .lst (xs ++ [y]).dropLast) s (fun _ z => nomatch z) fun H' k e => h H' k (by rw [e, List.dropLast_concat])⟩
def NewT (xs : List V) (H : Hp) (Q : VK) : Prop := xs.length ≤ sizeLine ∧ ∀ p, H p = none → Q (.ref p) (upd H p (.tup xs))
def NewL (xs : List V) (H : Hp) (Q : VK) : Prop := xs.length ≤ sizeLine ∧ ∀ p, H p = none → Q (.ref p) (upd H p (.lst xs))
def NewO (o : HO) (H : Hp) (Q : VK) : Prop := ∀ p, H p = none → Q (.ref p) (upd H p o)
theorem rd_tup {t : TA} (h : t σ H fun xs H1 => NewT xs H1 Q) : tTup t σ H Q := h
theorem rd_lst {t : TA} (h : t σ H fun xs H1 => NewL xs H1 Q) : tLst t σ H Q := h
theorem rd_newT (c : Nat.ble xs.length 1000000 = true) (h : ∀ p H', H p = none → Kp [] H H' → H' p = some (.tup xs) → Q (.ref p) H') : NewT xs H Q := ⟨Nat.le_trans (Nat.le_of_ble_eq_true c) (by decide), fun p hp => h p _ hp (Kp.new hp) upd_same⟩
theorem rd_newL (c : Nat.ble xs.length 1000000 = true) (h : ∀ p H', H p = none → Kp [] H H' → H' p = some (.lst xs) → Q (.ref p) H') : NewL xs H Q := ⟨Nat.le_trans (Nat.le_of_ble_eq_true c) (by decide), fun p hp => h p _ hp (Kp.new hp) upd_same⟩
theorem rd_newO {o : HO} (h : ∀ p H', H p = none → Kp [] H H' → H' p = some o → Q (.ref p) H') : NewO o H Q := fun p hp => h p _ hp (Kp.new hp) upd_same
theorem rd_lc {wi : TI} {vs : List Nat} (h : wi σ H fun J H1 => ∀ D, H1 D = none → ∃ W : Nat → Nat → Hp → Prop, (∃ m, W 0 m (upd H1 D (.lst []))) ∧ ∀ i m H, W i m H →
    (J.stop i H ∧ Q (.ref D) H) ∨ (J.go i H ∧ ∃ Nx : Hp → Prop, (∀ H', Nx H' → ∃ m', m' < m ∧ W (i + 1) m' H') ∧ ∀ x H', J.yld i H x H' → g x (wipe σ vs) H' fun σ2 H2 => wipe σ2 vs = wipe σ vs ∧ tt σ2 H2 fun b H3 =>
      if b = true then te σ2 H3 fun y H4 => ∃ acc, H4 D = some (.lst acc) ∧ acc.length < sizeLine ∧ Nx (upd H4 D (.lst (acc ++ [y]))) else Nx H3)) : tLc wi g tt te vs σ H Q := h
theorem rd_for {wi : TI} {tb : TS} (h : wi σ H fun J H1 => ∃ W : Nat → Nat → L2.St → Hp → Prop, (∃ m, W 0 m σ H1) ∧ ∀ i m σ H, W i m σ H →
    (J.stop i H ∧ D.nx σ H) ∨ (J.go i H ∧ ∃ N : L2.St → Hp → Prop, (∀ σ' H', N σ' H' → ∃ m', m' < m ∧ W (i + 1) m' σ' H') ∧ ∀ x H', J.yld i H x H' → g x σ H' fun σ2 H2 => tb { D with nx := N, ct := N, bk := D.nx } σ2 H2)) : tFor wi g tb D σ H := h
def IL (K : PySem.W.Frag) (x : V) (H : Hp) (R : It → Hp → Prop) : Prop := ∃ a, x = .ref a ∧ (∃ xs, SqL K H a xs) ∧ R (Itl K a) H
def IT (K : PySem.W.Frag) (x : V) (H : Hp) (R : It → Hp → Prop) : Prop := ∃ a, x = .ref a ∧ (∃ xs, SqT K H a xs) ∧ R (Itt K a) H
def IR (vs : List V) (H : Hp) (R : It → Hp → Prop) : Prop := ∃ j : Int, vs = [.int j] ∧ -(2 ^ 62) ≤ j ∧ j < 2 ^ 62 ∧ R (Itr 0 j.toNat) H
theorem rd_il {tl : TE} {R : It → Hp → Prop} (h : tl σ H fun x H1 => IL K x H1 R) : iList K tl σ H R := h
theorem rd_ilx {p : Addr} {R : It → Hp → Prop} (s : SqL K H p xs) (h : R (Itl K p) H) : IL K (.ref p) H R := ⟨p, rfl, ⟨xs, s⟩, h⟩
theorem rd_it {tl : TE} {R : It → Hp → Prop} (h : tl σ H fun x H1 => IT K x H1 R) : iTup K tl σ H R := h
theorem rd_itx {p : Addr} {R : It → Hp → Prop} (s : H p = some (.tup xs)) (h : R (Itt K p) H) : IT K (.ref p) H R := ⟨p, rfl, ⟨xs, SqT.of s⟩, h⟩
theorem rd_itK {p : Addr} {R : It → Hp → Prop} (s : SqT K H p xs) (h : R (Itt K p) H) : IT K (.ref p) H R := ⟨p, rfl, ⟨xs, s⟩, h⟩
theorem rd_ir {ta : TA} {R : It → Hp → Prop} (h : ta σ H fun vs H1 => IR vs H1 R) : iRng1 ta σ H R := h
theorem rd_irx {n : Int} {m : Nat} {R : It → Hp → Prop} (e : n = (m : Int)) (b : m < 1000000) (h : R (Itr 0 m) H) : IR [V.int n] H R :=
  ⟨n, rfl, by omega, by omega, by subst e; exact h⟩
theorem rd_dput {td ty : TE} (h : tv σ H fun v H1 => td σ H1 fun x H2 => ty σ H2 fun y H3 => ∃ a H4, x = .ref a ∧ DPut H3 a y v H4 ∧ D.nx σ H4) : sDPut td ty tv D σ H := h
theorem rd_putK {d : Addr} {kvs : List (Key × V)} {n : Int} {Q : Hp → Prop} (s : H d = some (.dK kvs)) (l : kvs.length < 1000000) (h : ∀ H', Kp [d] H H' → H' d = some (.dK (putK kvs (Sum.inl n) v)) → Q H') :
    ∃ a H4, V.ref d = .ref a ∧ DPut H a (.int n) v H4 ∧ Q H4 := ⟨d, _, rfl, DPut.k (k := Sum.inl n) s (Nat.lt_of_lt_of_le l (by decide)), put_o s (fun _ z => nomatch z) h⟩
theorem rd_putT {d b : Addr} {kvs : List (List Key × V)} {ks : List Key} {Q : Hp → Prop} (s : H d = some (.dT kvs)) (sb : H b = some (.tup (ks.map kV))) (l : kvs.length < 1000000) (h : ∀ H', Kp [d] H H' → H' d = some (.dT (putK kvs ks v)) → Q H') :
    ∃ a H4, V.ref d = .ref a ∧ DPut H a (.ref b) v H4 ∧ Q H4 := ⟨d, _, rfl, DPut.t s sb (Nat.lt_of_lt_of_le l (by decide)), put_o s (fun _ z => nomatch z) h⟩
theorem rd_dget {td ty : TE} (h : td σ H fun x H1 => ty σ H1 fun y H2 => ∃ a v, x = .ref a ∧ DGet H2 a y (some v) ∧ Q v H2) : tDGet td ty σ H Q := h
theorem rd_getK {d : Addr} {kvs : List (Key × V)} {n : Int} {Q : V → Prop} (s : H d = some (.dK kvs)) (e : valV kvs (Sum.inl n) = some v) (h : Q v) : ∃ a v, V.ref d = .ref a ∧ DGet H a (.int n) (some v) ∧ Q v :=
  ⟨d, v, rfl, by rw [← e]; exact DGet.k (k := Sum.inl n) s, h⟩
theorem rd_getT {d b : Addr} {kvs : List (List Key × V)} {ks : List Key} {Q : V → Prop} (s : H d = some (.dT kvs)) (sb : H b = some (.tup (ks.map kV))) (e : valV kvs ks = some v) (h : Q v) : ∃ a v, V.ref d = .ref a ∧ DGet H a (.ref b) (some v) ∧ Q v :=
  ⟨d, v, rfl, by rw [← e]; exact DGet.t s sb, h⟩
theorem sz_ok {n : Nat} (h : n ≤ 1000000) : n ≤ sizeLine := Nat.le_trans h (by decide)
theorem sz_lt {n : Nat} (h : n < 1000000) : n < sizeLine := Nat.lt_of_lt_of_le h (by decide)
end
end EW
namespace EW
open PySem L2
/-- the built-ins' names are nobody else's -/
structure TxtB (mg : Str → Option Value) : Prop where
  z_int : mg "int" = none
  z_bool : mg "bool" = none
  z_tuple : mg "tuple" = none
  z_len : mg "len" = none
  z_range : mg "range" = none
  z_sum : mg "sum" = none
  z_sorted : mg "sorted" = none
  z_dict : mg "dict" = none
  z_list : mg "list" = none
  z_isinstance : mg "isinstance" = none
  z_enumerate : mg "enumerate" = none
  z_set : mg "set" = none
/-- the script: at a, tracked (S is a alone) or of the written part (S is empty) -/
def ScrAt (K : PySem.W.Frag) (H : Hp) (a : Addr) (ns : List Int) (S : List Addr) : Prop := SqL K H a (ns.map V.int) ∧ ((S = [a] ∧ ∃ o, H a = some o) ∨ (S = [] ∧ ∀ H' : Hp, SqL K H' a (ns.map V.int)))
/-- the row of the law's draws: the script, how many cells were taken, the mixed number, what is left of a great cell -/
def RowAt (K : PySem.W.Frag) (H : Hp) (row : Addr) (S : List Addr) : Prop :=
  ∃ (a : Addr) (ns : List Int) (p m r : Int), H row = some (.lst [.ref a, .int p, .int m, .int r]) ∧ ScrAt K H a ns S ∧ row ∉ S ∧ ns.length ≤ 63 ∧ 0 ≤ p ∧ 0 ≤ m ∧ m < 2147483647
def spTaken (K : PySem.W.Frag) : Sp := fun vs H Q _ => ∃ (row : Addr) (S : List Addr) (many : Int), vs = [.ref row, .int many] ∧ RowAt K H row S ∧ 0 < many ∧ many < 1000000000 ∧
  ∀ (r : Nat) H', (r : Int) < many → RowAt K H' row S → Kp [row] H H' → Q (nV r) H'
theorem ScrAt.keep {K : PySem.W.Frag} {H H' : Hp} {a : Addr} {ns : List Int} {S M : List Addr} (h : ScrAt K H a ns S) (k : Kp M H H') (n : ∀ s ∈ S, s ∉ M) : ScrAt K H' a ns S := by
  obtain ⟨h1, h2⟩ := h
  rcases h2 with ⟨rfl, o, h2⟩ | ⟨rfl, h2⟩
  · have na : a ∉ M := n a List.mem_cons_self
    obtain ⟨o', h3⟩ := k.there a o h2
    exact ⟨k.seqL h1 na, .inl ⟨rfl, o', h3⟩⟩
  · exact ⟨h2 H', .inr ⟨rfl, h2⟩⟩
theorem ScrAt.notin {K : PySem.W.Frag} {H : Hp} {a p : Addr} {ns : List Int} {S : List Addr} (h : ScrAt K H a ns S) (n : H p = none) : p ∉ S := by
  obtain ⟨h1, h2⟩ := h
  rcases h2 with ⟨rfl, o, h2⟩ | ⟨rfl, h2⟩
  · exact fun z => ne_of_none h2 n (List.mem_singleton.mp z).symm
  · exact List.not_mem_nil
theorem dis0 {S : List Addr} : ∀ s ∈ S, s ∉ ([] : List Addr) := fun _ _ => List.not_mem_nil
theorem dis1 {S : List Addr} {x : Addr} (h : x ∉ S) : ∀ s ∈ S, s ∉ [x] := fun s hs z => h (by rw [← List.mem_singleton.mp z]; exact hs)
theorem dis2 {S : List Addr} {x y : Addr} (h : x ∉ S) (h' : y ∉ S) : ∀ s ∈ S, s ∉ [x, y] := fun s hs z => by
  rcases List.mem_cons.mp z with z | z
  · exact h (by rw [← z]; exact hs)
  · exact h' (by rw [← List.mem_singleton.mp z]; exact hs)
theorem ne_mem1 {a b : Addr} (h : a ≠ b) : a ∉ [b] := fun z => h (List.mem_singleton.mp z)
theorem idx_n {ks : List Nat} {r : Nat} (h : (r : Int) < ((ks.map nV).length : Nat)) : ∃ k ∈ ks, atI (ks.map nV) (r : Int) = some (nV k) := by
  have h' : r < ks.length := by
    rw [List.length_map] at h
    omega
  exact ⟨ks[r], List.getElem_mem h', atI_nat (by rw [List.getElem?_map, List.getElem?_eq_getElem h'] <;> rfl)⟩
theorem sub0 {M : List Addr} : ∀ b ∈ ([] : List Addr), b ∈ M := fun _ h => nomatch h
theorem sub_refl {M : List Addr} : ∀ b ∈ M, b ∈ M := fun _ h => h
theorem sub_l {x y : Addr} : ∀ b ∈ [x], b ∈ [x, y] := fun b h => by rw [List.mem_singleton.mp h]; exact List.mem_cons_self
theorem sub_r {x y : Addr} : ∀ b ∈ [y], b ∈ [x, y] := fun b h => by rw [List.mem_singleton.mp h]; exact List.mem_cons_of_mem _ List.mem_cons_self
theorem ne_mem0 {a : Addr} : a ∉ ([] : List Addr) := List.not_mem_nil
theorem ne_mem2 {a b c : Addr} (h : a ≠ b) (h' : a ≠ c) : a ∉ [b, c] := fun z => by
  rcases List.mem_cons.mp z with z | z
  · exact h z
  · exact h' (List.mem_singleton.mp z)
theorem RowAt.keep {K : PySem.W.Frag} {H H' : Hp} {row : Addr} {S M : List Addr} (k : Kp M H H') (h : RowAt K H row S) (n1 : row ∉ M) (n2 : ∀ s ∈ S, s ∉ M) : RowAt K H' row S :=
  let ⟨a, ns, p, m, r, h1, h2, h3⟩ := h
  ⟨a, ns, p, m, r, k.keep _ _ h1 n1, h2.keep k n2, h3⟩
theorem RowAt.ne {K : PySem.W.Frag} {H : Hp} {row : Addr} {S : List Addr} (h : RowAt K H row S) : row ∉ S := let ⟨_, _, _, _, _, _, _, h3, _⟩ := h; h3
theorem RowAt.newne {K : PySem.W.Frag} {H : Hp} {p row : Addr} {S : List Addr} (n : H p = none) (h : RowAt K H row S) : p ≠ row := let ⟨_, _, _, _, _, h1, _⟩ := h; (ne_of_none h1 n).symm
theorem RowAt.notin {K : PySem.W.Frag} {H : Hp} {p row : Addr} {S : List Addr} (n : H p = none) (h : RowAt K H row S) : p ∉ S := let ⟨_, _, _, _, _, _, h2, _⟩ := h; h2.notin n
theorem rd_taken {K : PySem.W.Frag} {H : Hp} {row : Addr} {S : List Addr} {many : Int} {Q : VK} {EE : XK} (h : RowAt K H row S) (h0 : 0 < many) (h1 : many < 1000000000) (k : ∀ (r : Nat) H', (r : Int) < many → RowAt K H' row S → Kp [row] H H' → Q (nV r) H') :
    spTaken K ([.ref row, .int many] ++ []) H Q EE := ⟨row, S, many, rfl, h, h0, h1, k⟩
theorem fmod_nn {a b : Int} (h : 0 < b) : 0 ≤ a.fmod b := by rw [Int.fmod_eq_emod_of_nonneg _ (by omega)]; exact Int.emod_nonneg _ (by omega)
theorem fmod_lt {a b : Int} (h : 0 < b) : a.fmod b < b := by rw [Int.fmod_eq_emod_of_nonneg _ (by omega)]; exact Int.emod_lt_of_pos _ h
end EW

namespace EW
open PySem L2
def top (i : Nat) : Stmt := PySem.Challenge.pw_envways_k19_whole_faults_put_together.main.body.getD i (.Pass ⟨0, 0, 0, 0⟩)
abbrev s_is_number : Stmt := top 11
abbrev N_is_number : List Str := ["part", "below"]
theorem sc_is_number : FnScope N_is_number ["part", "below"] (defScope s_is_number) := ⟨rfl, rfl, rfl, by decide +kernel, rfl, by decide +kernel, by decide +kernel⟩
abbrev s_is_expression : Stmt := top 12
abbrev N_is_expression : List Str := ["e", "names", "within", "shape", "at"]
theorem sc_is_expression : FnScope N_is_expression ["e", "names", "within"] (defScope s_is_expression) := ⟨rfl, rfl, rfl, by decide +kernel, rfl, by decide +kernel, by decide +kernel⟩
abbrev s_names_in : Stmt := top 13
abbrev N_names_in : List Str := ["e", "at", "names"]
theorem sc_names_in : FnScope N_names_in ["e", "at", "names"] (defScope s_names_in) := ⟨rfl, rfl, rfl, by decide +kernel, rfl, by decide +kernel, by decide +kernel⟩
abbrev s_parts_of : Stmt := top 14
abbrev N_parts_of : List Str := ["e", "at"]
theorem sc_parts_of : FnScope N_parts_of ["e"] (defScope s_parts_of) := ⟨rfl, rfl, rfl, by decide +kernel, rfl, by decide +kernel, by decide +kernel⟩
abbrev s_count : Stmt := top 15
abbrev N_count : List Str := ["e", "part"]
theorem sc_count : FnScope N_count ["e"] (defScope s_count) := ⟨rfl, rfl, rfl, by decide +kernel, rfl, by decide +kernel, by decide +kernel⟩
abbrev s_need_program : Stmt := top 16
abbrev N_need_program : List Str := ["program"]
theorem sc_need_program : FnScope N_need_program ["program"] (defScope s_need_program) := ⟨rfl, rfl, rfl, by decide +kernel, rfl, by decide +kernel, by decide +kernel⟩
abbrev s_Sites___init__ : Stmt := inClass (top 17) 0
abbrev N_Sites___init__ : List Str := ["self", "program"]
theorem sc_Sites___init__ : FnScope N_Sites___init__ ["self", "program"] (defScope s_Sites___init__) := ⟨rfl, rfl, rfl, by decide +kernel, rfl, by decide +kernel, by decide +kernel⟩
abbrev s_Sites_new_site : Stmt := inClass (top 17) 1
abbrev N_Sites_new_site : List Str := ["self", "owner", "is_fun", "number"]
theorem sc_Sites_new_site : FnScope N_Sites_new_site ["self", "owner", "is_fun"] (defScope s_Sites_new_site) := ⟨rfl, rfl, rfl, by decide +kernel, rfl, by decide +kernel, by decide +kernel⟩
abbrev s_Sites_sited : Stmt := inClass (top 17) 2
abbrev N_Sites_sited : List Str := ["self", "e", "scope", "owner", "around", "fun", "number", "first", "part"]
theorem sc_Sites_sited : FnScope N_Sites_sited ["self", "e", "scope", "owner", "around"] (defScope s_Sites_sited) := ⟨rfl, rfl, rfl, by decide +kernel, rfl, by decide +kernel, by decide +kernel⟩
abbrev s_Sites_sites_of : Stmt := inClass (top 17) 3
abbrev N_Sites_sites_of : List Str := ["self", "owner", "site"]
theorem sc_Sites_sites_of : FnScope N_Sites_sites_of ["self", "owner"] (defScope s_Sites_sites_of) := ⟨rfl, rfl, rfl, by decide +kernel, rfl, by decide +kernel, by decide +kernel⟩
abbrev s_Sites_house_of : Stmt := inClass (top 17) 4
abbrev N_Sites_house_of : List Str := ["self", "owner", "some", "fun", "site"]
theorem sc_Sites_house_of : FnScope N_Sites_house_of ["self", "owner"] (defScope s_Sites_house_of) := ⟨rfl, rfl, rfl, by decide +kernel, rfl, by decide +kernel, by decide +kernel⟩
abbrev s_with_name : Stmt := top 18
abbrev N_with_name : List Str := ["scope", "name", "site", "found"]
theorem sc_with_name : FnScope N_with_name ["scope", "name", "site"] (defScope s_with_name) := ⟨rfl, rfl, rfl, by decide +kernel, rfl, by decide +kernel, by decide +kernel⟩
abbrev s_need_most : Stmt := top 21
abbrev N_need_most : List Str := ["most"]
theorem sc_need_most : FnScope N_need_most ["most"] (defScope s_need_most) := ⟨rfl, rfl, rfl, by decide +kernel, rfl, by decide +kernel, by decide +kernel⟩
abbrev s_Function___init__ : Stmt := inClass (top 22) 0
abbrev N_Function___init__ : List Str := ["self", "site", "body", "made_by"]
theorem sc_Function___init__ : FnScope N_Function___init__ ["self", "site", "body", "made_by"] (defScope s_Function___init__) := ⟨rfl, rfl, rfl, by decide +kernel, rfl, by decide +kernel, by decide +kernel⟩
abbrev s_Run___init__ : Stmt := inClass (top 23) 0
abbrev N_Run___init__ : List Str := ["self", "sites", "most"]
theorem sc_Run___init__ : FnScope N_Run___init__ ["self", "sites", "most"] (defScope s_Run___init__) := ⟨rfl, rfl, rfl, by decide +kernel, rfl, by decide +kernel, by decide +kernel⟩
abbrev s_Run_step : Stmt := inClass (top 23) 1
abbrev N_Run_step : List Str := ["self", "task"]
theorem sc_Run_step : FnScope N_Run_step ["self", "task"] (defScope s_Run_step) := ⟨rfl, rfl, rfl, by decide +kernel, rfl, by decide +kernel, by decide +kernel⟩
abbrev s_Run_do : Stmt := inClass (top 23) 2
abbrev N_Run_do : List Str := ["self", "e", "here", "binding"]
theorem sc_Run_do : FnScope N_Run_do ["self", "e", "here"] (defScope s_Run_do) := ⟨rfl, rfl, rfl, by decide +kernel, rfl, by decide +kernel, by decide +kernel⟩
abbrev s_Run_holder : Stmt := inClass (top 23) 3
abbrev N_Run_holder : List Str := ["self", "here", "site"]
theorem sc_Run_holder : FnScope N_Run_holder ["self", "here", "site"] (defScope s_Run_holder) := ⟨rfl, rfl, rfl, by decide +kernel, rfl, by decide +kernel, by decide +kernel⟩
abbrev s_Run_plus : Stmt := inClass (top 23) 4
abbrev N_Run_plus : List Str := ["self", "other", "one"]
theorem sc_Run_plus : FnScope N_Run_plus ["self"] (defScope s_Run_plus) := ⟨rfl, rfl, rfl, by decide +kernel, rfl, by decide +kernel, by decide +kernel⟩
abbrev s_Run_choose : Stmt := inClass (top 23) 5
abbrev N_Run_choose : List Str := ["self", "task", "number"]
theorem sc_Run_choose : FnScope N_Run_choose ["self", "task"] (defScope s_Run_choose) := ⟨rfl, rfl, rfl, by decide +kernel, rfl, by decide +kernel, by decide +kernel⟩
abbrev s_Run_call : Stmt := inClass (top 23) 6
abbrev N_Run_call : List Str := ["self", "worth", "function", "here"]
theorem sc_Run_call : FnScope N_Run_call ["self"] (defScope s_Run_call) := ⟨rfl, rfl, rfl, by decide +kernel, rfl, by decide +kernel, by decide +kernel⟩
abbrev s_outcome_of : Stmt := top 24
abbrev N_outcome_of : List Str := ["result"]
theorem sc_outcome_of : FnScope N_outcome_of ["result"] (defScope s_outcome_of) := ⟨rfl, rfl, rfl, by decide +kernel, rfl, by decide +kernel, by decide +kernel⟩
abbrev s_run_of : Stmt := top 25
abbrev N_run_of : List Str := ["program", "most", "sites"]
theorem sc_run_of : FnScope N_run_of ["program", "most"] (defScope s_run_of) := ⟨rfl, rfl, rfl, by decide +kernel, rfl, by decide +kernel, by decide +kernel⟩
abbrev s_ran : Stmt := top 26
abbrev N_ran : List Str := ["program", "most"]
theorem sc_ran : FnScope N_ran ["program", "most"] (defScope s_ran) := ⟨rfl, rfl, rfl, by decide +kernel, rfl, by decide +kernel, by decide +kernel⟩
abbrev s_need_way : Stmt := top 29
abbrev N_need_way : List Str := ["program", "way"]
theorem sc_need_way : FnScope N_need_way ["program", "way"] (defScope s_need_way) := ⟨rfl, rfl, rfl, by decide +kernel, rfl, by decide +kernel, by decide +kernel⟩
abbrev s_look_of : Stmt := top 30
abbrev N_look_of : List Str := ["run", "way", "here", "there", "found"]
theorem sc_look_of : FnScope N_look_of ["run", "way", "here", "there"] (defScope s_look_of) := ⟨rfl, rfl, rfl, by decide +kernel, rfl, by decide +kernel, by decide +kernel⟩
abbrev s_looked : Stmt := top 31
abbrev N_looked : List Str := ["program", "way", "most", "run", "here", "binding"]
theorem sc_looked : FnScope N_looked ["program", "way", "most"] (defScope s_looked) := ⟨rfl, rfl, rfl, by decide +kernel, rfl, by decide +kernel, by decide +kernel⟩
abbrev s_straight : Stmt := top 33
abbrev N_straight : List Str := ["run", "way", "function", "found", "site", "here", "owner", "some"]
theorem sc_straight : FnScope N_straight ["run", "way", "function"] (defScope s_straight) := ⟨rfl, rfl, rfl, by decide +kernel, rfl, by decide +kernel, by decide +kernel⟩
abbrev s_held : Stmt := top 34
abbrev N_held : List Str := ["run", "way", "found", "left", "binding"]
theorem sc_held : FnScope N_held ["run", "way"] (defScope s_held) := ⟨rfl, rfl, rfl, by decide +kernel, rfl, by decide +kernel, by decide +kernel⟩
abbrev s_kept : Stmt := top 35
abbrev N_kept : List Str := ["program", "way", "most"]
theorem sc_kept : FnScope N_kept ["program", "way", "most"] (defScope s_kept) := ⟨rfl, rfl, rfl, by decide +kernel, rfl, by decide +kernel, by decide +kernel⟩
abbrev s_lasts : Stmt := top 36
abbrev N_lasts : List Str := ["program", "most", "run", "known", "number", "look", "binding"]
theorem sc_lasts : FnScope N_lasts ["program", "most"] (defScope s_lasts) := ⟨rfl, rfl, rfl, by decide +kernel, rfl, by decide +kernel, by decide +kernel⟩
abbrev s__law_taken : Stmt := top 38
abbrev N__law_taken : List Str := ["_law_row", "_law_many", "_law_found", "_law_cell"]
theorem sc__law_taken : FnScope N__law_taken ["_law_row", "_law_many"] (defScope s__law_taken) := ⟨rfl, rfl, rfl, by decide +kernel, rfl, by decide +kernel, by decide +kernel⟩
abbrev s__law_names : Stmt := top 39
abbrev N__law_names : List Str := ["_law_scope", "_law_want", "_law_name"]
theorem sc__law_names : FnScope N__law_names ["_law_scope", "_law_want"] (defScope s__law_names) := ⟨rfl, rfl, rfl, by decide +kernel, rfl, by decide +kernel, by decide +kernel⟩
abbrev s__law_bound : Stmt := top 40
abbrev N__law_bound : List Str := ["_law_scope", "_law_name", "_law_sort", "_law_found"]
theorem sc__law_bound : FnScope N__law_bound ["_law_scope", "_law_name", "_law_sort"] (defScope s__law_bound) := ⟨rfl, rfl, rfl, by decide +kernel, rfl, by decide +kernel, by decide +kernel⟩
abbrev s__law_leaf : Stmt := top 41
abbrev N__law_leaf : List Str := ["_law_row", "_law_scope", "_law_want", "_law_some", "_law_name", "_law_inner", "_law_numbers", "_law_body"]
theorem sc__law_leaf : FnScope N__law_leaf ["_law_row", "_law_scope", "_law_want"] (defScope s__law_leaf) := ⟨rfl, rfl, rfl, by decide +kernel, rfl, by decide +kernel, by decide +kernel⟩
abbrev s__law_e : Stmt := top 42
abbrev N__law_e : List Str := ["_law_row", "_law_scope", "_law_want", "_law_deep", "_law_box", "_law_way", "_law_sort", "_law_name", "_law_first"]
theorem sc__law_e : FnScope N__law_e ["_law_row", "_law_scope", "_law_want", "_law_deep", "_law_box"] (defScope s__law_e) := ⟨rfl, rfl, rfl, by decide +kernel, rfl, by decide +kernel, by decide +kernel⟩
abbrev s__law_size : Stmt := top 43
abbrev N__law_size : List Str := ["_law_e_here", "_law_part"]
theorem sc__law_size : FnScope N__law_size ["_law_e_here"] (defScope s__law_size) := ⟨rfl, rfl, rfl, by decide +kernel, rfl, by decide +kernel, by decide +kernel⟩
abbrev s__law_few : Stmt := top 44
abbrev N__law_few : List Str := ["_law_row", "_law_want", "_law_program"]
theorem sc__law_few : FnScope N__law_few ["_law_row", "_law_want"] (defScope s__law_few) := ⟨rfl, rfl, rfl, by decide +kernel, rfl, by decide +kernel, by decide +kernel⟩
abbrev s__law_any : Stmt := top 45
abbrev N__law_any : List Str := ["_law_row", "_law_program", "_law_itself", "_law_way"]
theorem sc__law_any : FnScope N__law_any ["_law_row"] (defScope s__law_any) := ⟨rfl, rfl, rfl, by decide +kernel, rfl, by decide +kernel, by decide +kernel⟩
abbrev s_law : Stmt := top 46
abbrev N_law : List Str := ["_law_script", "_law_row", "_law_maker", "_law_turn", "_law_program", "_law_number", "_law_ending", "_law_cases", "_law_whole", "_law_fault", "_law_added", "_law_both", "_law_two"]
theorem sc_law : FnScope N_law ["_law_script"] (defScope s_law) := ⟨rfl, rfl, rfl, by decide +kernel, rfl, by decide +kernel, by decide +kernel⟩
end EW

section
open PySem L2 EW
local macro_rules | `(tactic| walk_at "ne") => `(tactic| first
  | assumption
  | exact Ne.symm (by assumption)
  | ((with_reducible refine' EW.RowAt.newne ?n ?h); (case n => assumption); (case h => walk_at "hp"))
  | ((with_reducible refine' Ne.symm (EW.RowAt.newne ?n ?h)); (case n => assumption); (case h => walk_at "hp"))
  | ((with_reducible refine' EW.BoxAt.newne ?n ?h); (case n => assumption); (case h => walk_at "hp"))
  | ((with_reducible refine' Ne.symm (EW.BoxAt.newne ?n ?h)); (case n => assumption); (case h => walk_at "hp")))
local macro_rules | `(tactic| walk_at "ns") => `(tactic| first
  | assumption
  | exact EW.RowAt.ne (by assumption)
  | ((with_reducible refine' EW.RowAt.notin ?n ?h); (case n => assumption); (case h => walk_at "hp")))
local macro_rules | `(tactic| walk_at "ni") => `(tactic| first
  | with_reducible exact EW.ne_mem0
  | with_reducible exact EW.dis0
  | ((with_reducible refine' EW.ne_mem1 ?h); (case h => walk_at "ne"))
  | ((with_reducible refine' EW.ne_mem2 ?h ?g); (case h => walk_at "ne"); (case g => walk_at "ne"))
  | ((with_reducible refine' EW.dis1 ?h); (case h => walk_at "ns"))
  | ((with_reducible refine' EW.dis2 ?h ?g); (case h => walk_at "ns"); (case g => walk_at "ns")))
local macro_rules | `(tactic| walk_at "hp") => `(tactic| first
  | assumption
  | ((with_reducible refine' EW.RE.mono (EW.Kp.tup ?k) ?h); (case k => assumption); (case h => walk_at "hp"))
  | ((with_reducible refine' EW.Kp.tup ?k _ _ ?h); (case k => assumption); (case h => walk_at "hp"))
  | ((with_reducible refine' EW.kp_tup ?k ?h); (case k => assumption); (case h => walk_at "hp"))
  | ((with_reducible refine' EW.Kp.keep ?k _ _ ?h ?n); (case k => assumption); (case h => walk_at "hp"); (case n => walk_at "ni"))
  | ((with_reducible refine' EW.Kp.seqL ?k ?h ?n); (case k => assumption); (case h => walk_at "hp"); (case n => walk_at "ni"))
  | ((with_reducible refine' EW.RowAt.keep ?k ?h ?n1 ?n2); (case k => assumption); (case h => walk_at "hp"); (case n1 => walk_at "ni"); (case n2 => walk_at "ni"))
  | ((with_reducible refine' EW.ScAt.keep ?k ?h ?n); (case k => assumption); (case h => walk_at "hp"); (case n => walk_at "ni"))
  | ((with_reducible refine' EW.BoxAt.keep ?k ?h ?n); (case k => assumption); (case h => walk_at "hp"); (case n => walk_at "ni"))
  | ((with_reducible refine' L2.SqL.of ?h); (case h => walk_at "hp"))
  | ((with_reducible refine' L2.SqT.of ?h); (case h => walk_at "hp")))
local macro_rules | `(tactic| walk_at "sb") => `(tactic| first
  | exact EW.sub0
  | exact EW.sub_refl
  | exact EW.sub_l
  | exact EW.sub_r)
local macro_rules | `(tactic| walk_at "kp") => `(tactic| first
  | exact EW.Kp.refl
  | assumption
  | ((with_reducible refine' EW.Kp.trans ?h (EW.Kp.mono ?k ?s)); (case k => assumption); (case s => walk_at "sb"); (case h => walk_at "kp")))
local macro_rules | `(tactic| walk_at "st") => `(tactic| first
  | with_reducible refine rd_seq ?_
  | with_reducible refine rd_next ?_
  | with_reducible refine rd_asg ?_
  | with_reducible refine rd_name ?_
  | with_reducible refine rd_ret ?_
  | with_reducible refine rd_drop ?_
  | ((with_reducible refine' rd_var ?e ?_); (case e => first | with_reducible assumption | exact rfl | assumption))
  | with_reducible refine rd_c ?_
  | with_reducible refine rd_op ?_
  | with_reducible refine rd_I0 ?_
  | with_reducible refine rd_test ?_
  | with_reducible refine rd_tB ?_
  | with_reducible refine rd_not ?_
  | with_reducible refine rd_and ?_
  | with_reducible refine rd_or ?_
  | with_reducible refine rd_ifE ?_
  | with_reducible refine rd_notV ?_
  | with_reducible refine rd_andV ?_
  | with_reducible refine rd_orV ?_
  | with_reducible refine rd_cons ?_
  | with_reducible refine EW.rd_par ?_
  | with_reducible refine EW.rd_par2 ?_
  | with_reducible refine EW.rd_parT ?_
  | with_reducible refine EW.rd_par3 ?_
  | with_reducible refine rd_nil ?_
  | with_reducible refine rd_cb ?_
  | with_reducible refine rd_call ?_
  | with_reducible refine rd_meth ?_
  | with_reducible refine rd_sub ?_
  | with_reducible refine rd_fl ?_
  | with_reducible refine rd_tup ?_
  | with_reducible refine rd_lst ?_
  | with_reducible refine rd_sl ?_
  | with_reducible refine rd_part ?_
  | with_reducible refine rd_partI ?_
  | with_reducible refine rd_nopart ?_
  | with_reducible refine rd_yes ?_
  | with_reducible refine rd_dnewK ?_
  | with_reducible refine rd_dnewT ?_
  | ((with_reducible refine' rd_isT ?h ?_); (case h => walk_at "hp"))
  | with_reducible refine rd_isI ?_
  | with_reducible refine rd_isII ?_
  | with_reducible refine rd_isIB ?_
  | ((with_reducible refine' rd_sum ?h ?_); (case h => walk_at "hp"))
  | ((with_reducible refine' rd_tail ?h ?_); (case h => walk_at "hp"))
  | ((with_reducible refine rd_newO ?_); intro _ _ _ _ _)
  | ((with_reducible refine' rd_lenS ?l ?_); (case l => exact rfl))
  | ((with_reducible refine' rd_ixS ?l ?e ?_); (case l => exact rfl); (case e => first | assumption | with_reducible exact EW.at_head | exact rfl))
  | with_reducible refine EW.ite_dT (by decide +kernel) ?_
  | with_reducible refine EW.ite_dF (by decide +kernel) ?_
  | with_reducible refine EW.ite_nT (by decide +kernel) ?_
  | with_reducible refine EW.ite_nF (by decide +kernel) ?_
  | with_reducible refine EW.iteNF ?_
  | with_reducible refine EW.iteNT ?_
  | with_reducible refine EW.iteEC ?_
  | with_reducible refine EW.iteEN ?_
  | with_reducible refine EW.iteNC ?_
  | with_reducible refine EW.iteNN ?_
  | with_reducible refine EW.rd_kget (by assumption) ?_
  | with_reducible refine EW.rd_kgx (by assumption) _ ?_
  | with_reducible refine EW.rd_ixD (by assumption) _ ?_
  | with_reducible refine EW.rd_chain ?_
  | with_reducible refine L2.iteT ?_
  | with_reducible refine L2.iteF ?_
  | with_reducible refine rd_bm ?_
  | with_reducible refine rd_bm0 ?_
  | with_reducible refine rd_sfld ?_
  | with_reducible refine rd_make ?_
  | ((with_reducible refine' rd_bmL ?s ?_); (case s => walk_at "hp"))
  | ((with_reducible refine' rd_bm0L ?s ?_); (case s => walk_at "hp"))
  | ((with_reducible refine' rd_mex ?s ?l ?_); (case s => walk_at "hp"); (case l => assumption))
  | with_reducible refine rd_lc ?_
  | with_reducible refine rd_for ?_
  | with_reducible refine rd_il ?_
  | with_reducible refine rd_it ?_
  | with_reducible refine rd_ir ?_
  | with_reducible refine rd_dput ?_
  | with_reducible refine rd_dget ?_
  | ((with_reducible refine' rd_ilx ?s ?_); (case s => walk_at "hp"))
  | ((with_reducible refine' rd_itx ?s ?_); (case s => walk_at "hp"))
  | ((with_reducible refine' rd_getK ?s ?e ?_); (case s => walk_at "hp"); (case e => assumption))
  | ((with_reducible refine rd_newT rfl ?_); intro _ _ _ _ _)
  | ((with_reducible refine rd_newL rfl ?_); intro _ _ _ _ _)
  | ((with_reducible refine' rd_taken ?a ?b ?c ?_); (case a => walk_at "hp"); (case b => first | omega | decide); (case c => first | omega | decide); intro _ _ _ _ _)
  | ((with_reducible refine' rd_neE ?a ?b ?_); (case a => walk_at "hp"); (case b => walk_at "hp"))
  | ((with_reducible refine' rd_eqE ?a ?b ?_); (case a => walk_at "hp"); (case b => walk_at "hp"))
  | with_reducible refine rd_eq rfl ?_
  | with_reducible refine rd_ne rfl ?_
  | with_reducible refine rd_bl ?_
  | ((with_reducible refine rd_I ?c ?_); (case c => first | assumption | omega | decide | (exact Or.inl ⟨by omega, by omega⟩) | (exact ⟨by omega, by omega⟩) | (exact ⟨by decide, by decide, by decide⟩)))
  | refine Or.inl ⟨_, rfl, ?_⟩
  | refine Or.inr ⟨_, rfl, ?_⟩
  | ((with_reducible refine' rd_lenL ?s ?_); (case s => walk_at "hp"))
  | ((with_reducible refine' rd_lenT ?s ?_); (case s => walk_at "hp"))
  | ((with_reducible refine' rd_ixL ?s ?e ?_); (case s => walk_at "hp"); (case e => first | assumption | with_reducible exact EW.at_head | exact rfl))
  | ((with_reducible refine' rd_ixT ?s ?e ?_); (case s => walk_at "hp"); (case e => first | assumption | with_reducible exact EW.at_head | exact rfl))
  | ((with_reducible refine' rd_flx ?s ?c ?n ?l ?_); (case s => walk_at "hp"); (case c => assumption); (case n => assumption); (case l => assumption)))
local macro_rules | `(tactic| walk_at "go") => `(tactic| repeat (walk_at "st"))
local macro_rules | `(tactic| walk_at "gi") => `(tactic| repeat (first | with_reducible refine rd_if ?_ | walk_at "st"))
namespace EW
open PySem L2
section
variable {K : PySem.W.Frag} {a : Addr} {xs : List V} {g : TG} {tt : TT} {te : TE} {vs : List Nat} {σ : L2.St} {H1 : Hp} {D : Addr} {Qd : Hp → Prop} {M : List Addr}
theorem Kp.mut {H H2 : Hp} {o : HO} (x : Kp M H H2) (h : H D = none) : Kp M H (upd H2 D o) :=
  ⟨fun b u e n => by rw [upd_ne (ne_of_none e h)]; exact x.keep b u e n, fun b ys e => by rw [upd_ne (ne_of_none e h)]; exact x.tup b ys e, fun b u e => by rw [upd_ne (ne_of_none e h)]; exact x.there b u e⟩
/-- what is new may be changed -/
theorem Kp.chg {H H1 H2 : Hp} {p : Addr} {M : List Addr} (k1 : Kp M H H1) (hp : H p = none) (k : Kp (p :: M) H1 H2) : Kp M H H2 :=
  ⟨fun b o e n => k.keep b o (k1.keep b o e n) (fun z => by
      rcases List.mem_cons.mp z with z | z
      · exact ne_of_none e hp z
      · exact n z), fun b xs e => k.tup b xs (k1.tup b xs e), fun b o e => let ⟨o1, e1⟩ := k1.there b o e; k.there b o1 e1⟩
theorem not_in_of {H : Hp} {M : List Addr} (hM : ∀ m ∈ M, ∃ o, H m = some o) (h : H D = none) : D ∉ M := fun z => by
  obtain ⟨o, e⟩ := hM D z
  rw [h] at e
  cases e
theorem tups_upd {H : Hp} {o : HO} {ys : List V} (h : H D = some (.lst ys)) : Tups H (upd H D o) := fun b zs e => by
  rw [upd_ne (ne_of e h (fun z => nomatch z))]
  exact e
/-- what stands at the list that is made, behind some turns -/
def LcP (xs : List V) (D : Addr) (H1 : Hp) (M : List Addr) (J : List V → List V → Hp → Prop) (i : Nat) (H : Hp) : Prop :=
  ∃ l r acc, xs = l ++ r ∧ l.length = i ∧ H D = some (.lst acc) ∧ acc.length ≤ i ∧ Kp M H1 H ∧ J l acc H
theorem lcP_start (J : List V → List V → Hp → Prop) (mono : ∀ l acc H H', Kp [D] H H' → J l acc H → J l acc H') (hD : H1 D = none) (h0 : J [] [] H1) : LcP xs D H1 M J 0 (upd H1 D (.lst [])) :=
  ⟨[], xs, [], rfl, rfl, upd_same, Nat.le_refl _, Kp.mut Kp.refl hD, mono _ _ _ _ (Kp.new hD) h0⟩
theorem lcP_turn (J : List V → List V → Hp → Prop) (mono : ∀ l acc H H', Kp [D] H H' → J l acc H → J l acc H') (hD : H1 D = none) (hM : ∀ m ∈ M, ∃ o, H1 m = some o) (hlen : xs.length < 1000000) {i : Nat} {x : V} {H : Hp} (hi : xs[i]? = some x)
    (hs : ∀ l r acc, xs = l ++ x :: r → J l acc H → Kp M H1 H → acc.length ≤ l.length → H D = some (.lst acc) → ∀ (Qy : VK) (Qn : Hp → Prop), (∀ y H4, Kp M H H4 → J (l ++ [x]) (acc ++ [y]) H4 → Qy y H4) → (∀ H3, Kp M H H3 → J (l ++ [x]) acc H3 → Qn H3) →
      g x (wipe σ vs) H fun σ2 H2 => wipe σ2 vs = wipe σ vs ∧ tt σ2 H2 fun b H3 => if b = true then te σ2 H3 Qy else Qn H3)
    (h : LcP xs D H1 M J i H) :
    g x (wipe σ vs) H fun σ2 H2 => wipe σ2 vs = wipe σ vs ∧ tt σ2 H2 fun b H3 => if b = true then te σ2 H3 fun y H4 => ∃ acc, H4 D = some (.lst acc) ∧ acc.length < sizeLine ∧ LcP xs D H1 M J (i + 1) (upd H4 D (.lst (acc ++ [y]))) else LcP xs D H1 M J (i + 1) H3 := by
  obtain ⟨l, r, acc, e, hl, hacc, hle, hk, hJ⟩ := h
  have hDM := not_in_of hM hD
  have hb : i < xs.length := (List.getElem?_eq_some_iff.mp hi).1
  obtain ⟨r', rfl⟩ : ∃ r', r = x :: r' := by
    subst e
    rw [List.getElem?_append_right (by omega)] at hi
    cases r with
    | nil => simp at hi
    | cons z r' =>
      rw [hl, Nat.sub_self] at hi
      exact ⟨r', by rw [Option.some.inj hi]⟩
  have e2 : xs = (l ++ [x]) ++ r' := by rw [e]; simp
  refine hs l r' acc e hJ hk (by omega) hacc _ _ (fun y H4 k4 j4 => ?_) (fun H3 k3 j3 => ?_)
  · have h4 : H4 D = some (.lst acc) := k4.keep _ _ hacc hDM
    exact ⟨acc, h4, sz_lt (by omega), l ++ [x], r', acc ++ [y], e2, by simp [hl], upd_same, by simp; omega, Kp.mut (hk.trans k4) hD, mono _ _ _ _ (Kp.put h4 (fun _ z => nomatch z) List.mem_cons_self) j4⟩
  · exact ⟨l ++ [x], r', acc, e2, by simp [hl], k3.keep _ _ hacc hDM, by omega, hk.trans k3, j3⟩
theorem lcP_end {J : List V → List V → Hp → Prop} {H : Hp} (h : LcP xs D H1 M J xs.length H) : ∃ acc, J xs acc H ∧ Kp M H1 H ∧ H D = some (.lst acc) ∧ acc.length ≤ xs.length := by
  obtain ⟨l, r, acc, e, hl, hacc, hle, hk, hJ⟩ := h
  have : r = [] := by
    have := congrArg List.length e
    rw [List.length_append] at this
    exact List.length_eq_zero_iff.mp (by omega)
  subst this
  rw [List.append_nil] at e
  subst e
  exact ⟨acc, hJ, hk, hacc, hle⟩
theorem lc_J (J : List V → List V → Hp → Prop) (mono : ∀ l acc H H', Kp [D] H H' → J l acc H → J l acc H') (hD : H1 D = none) (hM : ∀ m ∈ M, ∃ o, H1 m = some o) (hS : SqL K H1 a xs) (haM : a ∉ M) (hlen : xs.length < 1000000) (h0 : J [] [] H1)
    (hs : ∀ l x r acc H, xs = l ++ x :: r → J l acc H → Kp M H1 H → acc.length ≤ l.length → H D = some (.lst acc) → ∀ (Qy : VK) (Qn : Hp → Prop), (∀ y H4, Kp M H H4 → J (l ++ [x]) (acc ++ [y]) H4 → Qy y H4) → (∀ H3, Kp M H H3 → J (l ++ [x]) acc H3 → Qn H3) →
      g x (wipe σ vs) H fun σ2 H2 => wipe σ2 vs = wipe σ vs ∧ tt σ2 H2 fun b H3 => if b = true then te σ2 H3 Qy else Qn H3)
    (hd : ∀ acc H, J xs acc H → Kp M H1 H → H D = some (.lst acc) → acc.length ≤ xs.length → Qd H) :
    ∃ W : Nat → Nat → Hp → Prop, (∃ m, W 0 m (upd H1 D (.lst []))) ∧ ∀ i m H, W i m H → ((Itl K a).stop i H ∧ Qd H) ∨ ((Itl K a).go i H ∧ ∃ Nx : Hp → Prop, (∀ H', Nx H' → ∃ m', m' < m ∧ W (i + 1) m' H') ∧
      ∀ x H', (Itl K a).yld i H x H' → g x (wipe σ vs) H' fun σ2 H2 => wipe σ2 vs = wipe σ vs ∧ tt σ2 H2 fun b H3 => if b = true then te σ2 H3 fun y H4 => ∃ acc, H4 D = some (.lst acc) ∧ acc.length < sizeLine ∧ Nx (upd H4 D (.lst (acc ++ [y]))) else Nx H3) := by
  refine lc_list (xs := xs) (LcP xs D H1 M J) (lcP_start J mono hD h0) (fun i H _ h => ?_) (fun i x H hi h => ?_) fun H h => ?_
  · obtain ⟨l, r, acc, e, hl, hacc, hle, hk, hJ⟩ := h
    exact hk.seqL hS haM
  · exact lcP_turn J mono hD hM hlen hi (fun l r acc e => hs l x r acc H e) h
  · obtain ⟨acc, j, k, d, l⟩ := lcP_end h
    exact hd acc H j k d l
theorem lc_JT (J : List V → List V → Hp → Prop) (mono : ∀ l acc H H', Kp [D] H H' → J l acc H → J l acc H') (hD : H1 D = none) (hM : ∀ m ∈ M, ∃ o, H1 m = some o) (hS : H1 a = some (.tup xs)) (hlen : xs.length < 1000000) (h0 : J [] [] H1)
    (hs : ∀ l x r acc H, xs = l ++ x :: r → J l acc H → Kp M H1 H → acc.length ≤ l.length → H D = some (.lst acc) → ∀ (Qy : VK) (Qn : Hp → Prop), (∀ y H4, Kp M H H4 → J (l ++ [x]) (acc ++ [y]) H4 → Qy y H4) → (∀ H3, Kp M H H3 → J (l ++ [x]) acc H3 → Qn H3) →
      g x (wipe σ vs) H fun σ2 H2 => wipe σ2 vs = wipe σ vs ∧ tt σ2 H2 fun b H3 => if b = true then te σ2 H3 Qy else Qn H3)
    (hd : ∀ acc H, J xs acc H → Kp M H1 H → H D = some (.lst acc) → acc.length ≤ xs.length → Qd H) :
    ∃ W : Nat → Nat → Hp → Prop, (∃ m, W 0 m (upd H1 D (.lst []))) ∧ ∀ i m H, W i m H → ((Itt K a).stop i H ∧ Qd H) ∨ ((Itt K a).go i H ∧ ∃ Nx : Hp → Prop, (∀ H', Nx H' → ∃ m', m' < m ∧ W (i + 1) m' H') ∧
      ∀ x H', (Itt K a).yld i H x H' → g x (wipe σ vs) H' fun σ2 H2 => wipe σ2 vs = wipe σ vs ∧ tt σ2 H2 fun b H3 => if b = true then te σ2 H3 fun y H4 => ∃ acc, H4 D = some (.lst acc) ∧ acc.length < sizeLine ∧ Nx (upd H4 D (.lst (acc ++ [y]))) else Nx H3) := by
  refine lc_tup (xs := xs) (LcP xs D H1 M J) (lcP_start J mono hD h0) (fun i H _ h => ?_) (fun i x H hi h => ?_) fun H h => ?_
  · obtain ⟨l, r, acc, e, hl, hacc, hle, hk, hJ⟩ := h
    exact SqT.of (hk.tup _ _ hS)
  · exact lcP_turn J mono hD hM hlen hi (fun l r acc e => hs l x r acc H e) h
  · obtain ⟨acc, j, k, d, l⟩ := lcP_end h
    exact hd acc H j k d l
def rgL (n : Nat) : List V := (List.range n).map fun i => V.int ((i : Nat) : Int)
theorem rgL_at {n i : Nat} (h : i < n) : (rgL n)[i]? = some (V.int (0 + ((i : Nat) : Int))) := by
  unfold rgL
  rw [List.getElem?_map, List.getElem?_range h, Int.zero_add]
  rfl
theorem rgL_len (n : Nat) : (rgL n).length = n := by unfold rgL; simp
theorem lc_JR {n : Nat} (J : List V → List V → Hp → Prop) (mono : ∀ l acc H H', Kp [D] H H' → J l acc H → J l acc H') (hD : H1 D = none) (hM : ∀ m ∈ M, ∃ o, H1 m = some o) (hlen : n < 1000000) (h0 : J [] [] H1)
    (hs : ∀ l x r acc H, rgL n = l ++ x :: r → J l acc H → Kp M H1 H → acc.length ≤ l.length → H D = some (.lst acc) → ∀ (Qy : VK) (Qn : Hp → Prop), (∀ y H4, Kp M H H4 → J (l ++ [x]) (acc ++ [y]) H4 → Qy y H4) → (∀ H3, Kp M H H3 → J (l ++ [x]) acc H3 → Qn H3) →
      g x (wipe σ vs) H fun σ2 H2 => wipe σ2 vs = wipe σ vs ∧ tt σ2 H2 fun b H3 => if b = true then te σ2 H3 Qy else Qn H3)
    (hd : ∀ acc H, J (rgL n) acc H → Kp M H1 H → H D = some (.lst acc) → acc.length ≤ n → Qd H) :
    ∃ W : Nat → Nat → Hp → Prop, (∃ m, W 0 m (upd H1 D (.lst []))) ∧ ∀ i m H, W i m H → ((Itr 0 n).stop i H ∧ Qd H) ∨ ((Itr 0 n).go i H ∧ ∃ Nx : Hp → Prop, (∀ H', Nx H' → ∃ m', m' < m ∧ W (i + 1) m' H') ∧
      ∀ x H', (Itr 0 n).yld i H x H' → g x (wipe σ vs) H' fun σ2 H2 => wipe σ2 vs = wipe σ vs ∧ tt σ2 H2 fun b H3 => if b = true then te σ2 H3 fun y H4 => ∃ acc, H4 D = some (.lst acc) ∧ acc.length < sizeLine ∧ Nx (upd H4 D (.lst (acc ++ [y]))) else Nx H3) := by
  refine lc_range (LcP (rgL n) D H1 M J) (lcP_start J mono hD h0) (fun i H hi h => ?_) fun H h => ?_
  · exact lcP_turn J mono hD hM (by rw [rgL_len]; exact hlen) (rgL_at hi) (fun l r acc e => hs l _ r acc H e) h
  · obtain ⟨acc, j, k, d, l⟩ := lcP_end (xs := rgL n) (by rw [rgL_len]; exact h)
    exact hd acc H j k d (by rw [rgL_len] at l; exact l)
end
/-! ### rules of our own -/
section
variable {X : Cx}
def rDictCopy : List V → Hp → VK → Prop := fun xs H Q => ∃ b kvs, xs = [V.ref b] ∧ H b = some (.dK kvs) ∧ NewO (.dK kvs) H Q
theorem rd_dcopy {H : Hp} {b : Addr} {kvs : List (Key × V)} {Q : VK} (s : H b = some (.dK kvs)) (h : NewO (.dK kvs) H Q) : rDictCopy [V.ref b] H Q := ⟨b, kvs, rfl, s, h⟩
def rSortDI : List V → Hp → VK → Prop := fun xs H Q => ∃ (a : Addr) (kvs : List (Key × V)) (ks : List Int), xs = [.ref a] ∧ H a = some (.dK kvs) ∧ kvs.map (·.1) = ks.map Sum.inl ∧ ks.length < 64 ∧
    ∀ ns' : List Int, ns'.Perm ks → ns'.Pairwise (· ≤ ·) → NewO (.lst (ns'.map V.int)) H Q
theorem cr_sortDI (hcalm : X.calm = true) : CallR X (.builtin "sorted") rSortDI := by
  intro pn sh sg hp ws us Q inv rv hh
  obtain ⟨b, kvs, ks, rfl, hb, he, hl, q⟩ := hh
  exact call_sortedDI hcalm pn sh sg hp _ us Q inv rv ⟨b, kvs, ks, rfl, Rd.of hb, he, hl, fun ns' p h1 h2 h3 => q ns' h1 h2 p h3⟩
theorem rd_sortDI {H : Hp} {b : Addr} {kvs : List (Key × V)} {ks : List Int} {Q : VK} (s : H b = some (.dK kvs)) (e : kvs.map (·.1) = ks.map Sum.inl) (l : ks.length < 64) (h : ∀ ns' : List Int, ns'.Perm ks → ns'.Pairwise (· ≤ ·) → NewO (.lst (ns'.map V.int)) H Q) : rSortDI [V.ref b] H Q :=
  ⟨b, kvs, ks, rfl, s, e, l, h⟩
theorem call_dict_copy : CallR X (.type "dict") rDictCopy := by
  intro pn sh sg hp ws us Q inv rv hh
  obtain ⟨b, kvs, rfl, hb, q⟩ := hh
  obtain ⟨u, rfl, ru⟩ := vals1 rv
  cases ru
  exact d_copyOf inv (Rd.of hb) fun p s' hn inv' => ⟨V.ref p, _, inv', rfl, q p hn⟩
end
/-! ### the names of a law's own programs -/
/-- a dict of names; the names are of B -/
def ScAt (H : Hp) (c : Addr) (B : List Nat) : Prop := ∃ ps : List (Nat × Int), H c = some (.dK (ps.map fun p => (Sum.inl (p.1 : Int), V.int p.2))) ∧ (∀ p ∈ ps, p.1 < 10 ∧ p.1 ∈ B) ∧ (ps.map (·.1)).Nodup
/-- a list of one number -/
def BoxAt (H : Hp) (b : Addr) : Prop := ∃ z : Int, H b = some (.lst [.int z])
theorem BoxAt.keep {H H' : Hp} {b : Addr} {M : List Addr} (k : Kp M H H') (h : BoxAt H b) (n : b ∉ M) : BoxAt H' b := let ⟨z, h1⟩ := h; ⟨z, k.keep _ _ h1 n⟩
theorem BoxAt.newne {H : Hp} {p b : Addr} (n : H p = none) (h : BoxAt H b) : p ≠ b := let ⟨_, h1⟩ := h; (ne_of_none h1 n).symm
theorem few_nats : ∀ (n : Nat) (l : List Nat), l.Nodup → (∀ x ∈ l, x < n) → l.length ≤ n
  | 0, [], _, _ => Nat.le_refl _
  | 0, x :: _, _, h => absurd (h x List.mem_cons_self) (Nat.not_lt_zero _)
  | n + 1, l, hn, h => by
    have q := few_nats n (l.erase n) (hn.erase n) fun x hx => by
      have := h x (List.mem_of_mem_erase hx)
      have hne : x ≠ n := fun e => by
        subst e
        exact ((List.Nodup.mem_erase_iff hn).mp hx).1 rfl
      omega
    have := List.length_erase (a := n) (l := l)
    split at this <;> omega
theorem ScAt.keep {H H' : Hp} {c : Addr} {B : List Nat} {M : List Addr} (k : Kp M H H') (s : ScAt H c B) (n : c ∉ M) : ScAt H' c B := let ⟨ps, h, q⟩ := s; ⟨ps, k.keep _ _ h n, q⟩
end EW
namespace EW
open PySem L2
section
variable {X : Cx}
/-- xs != [] -/
def rNeE : R2 := fun x y H Q => ∃ a b xs, x = .ref a ∧ y = .ref b ∧ H a = some (.lst xs) ∧ H b = some (.lst []) ∧ Q (.bl (!xs.isEmpty)) H
/-- t == () -/
def rEqE : R2 := fun x y H Q => ∃ a b xs, x = .ref a ∧ y = .ref b ∧ H a = some (.tup xs) ∧ H b = some (.tup []) ∧ Q (.bl xs.isEmpty) H
theorem op_neE (hu : X.A.units < cLine) : OpR X (compareOp .NotEq) rNeE := by
  intro pn sh sg hp x y v u Q inv rx ry hh
  obtain ⟨a, b, xs, rfl, rfl, ha, hb, q⟩ := hh
  cases rx
  cases ry
  obtain ⟨i1, r1, p1, l1⟩ := inv.list (SqL.of ha)
  obtain ⟨i2, r2, p2, l2⟩ := inv.list (SqL.of hb)
  have e2 : i2 = [] := Vals.zero r2
  subst e2
  cases xs with
  | nil =>
    have e1 : i1 = [] := Vals.zero r1
    subst e1
    exact SeqAt.RcNeAt.lists (e := fun _ => true) p1.isList p2.isList rfl hu (fun j h1 => absurd h1 (Nat.not_lt_zero _)) _ _ _ _ ⟨.bl _, _, inv, rfl, q⟩
  | cons z zs =>
    have n1 : i1.length = zs.length + 1 := by rw [← r1.length]; rfl
    exact SeqAt.RcNeAt.lists_lengths p1.isList p2.isList (by simp; intro z; rw [z] at n1; cases n1) hu _ _ _ _ ⟨.bl _, _, inv, rfl, q⟩
theorem op_eqE (hu : X.A.units < cLine) : OpR X (compareOp .Eq) rEqE := by
  intro pn sh sg hp x y v u Q inv rx ry hh
  obtain ⟨a, b, xs, rfl, rfl, ha, hb, q⟩ := hh
  cases rx
  cases ry
  obtain ⟨i1, r1, ⟨o1, g1, c1, n1, d1⟩, l1⟩ := inv.tuple (SqT.of ha)
  obtain ⟨i2, r2, ⟨o2, g2, c2, n2, d2⟩, l2⟩ := inv.tuple (SqT.of hb)
  have e2 : i2 = [] := Vals.zero r2
  subst e2
  have e : (xs.isEmpty) = ((List.range (min i1.toArray.size ([] : List Value).toArray.size)).all (fun _ => true) && i1.toArray.size == ([] : List Value).toArray.size) := by
    have hl := r1.length
    cases xs with
    | nil => cases i1 with
      | nil => rfl
      | cons _ _ => cases hl
    | cons _ _ => cases i1 with
      | nil => cases hl
      | cons _ _ => simp
  refine SeqAt.eq_tupleAt (e := fun _ => true) ⟨o1, g1, c1, n1, d1⟩ ⟨o2, g2, c2, n2, d2⟩ hu (fun j h1 h2 => absurd h2 (Nat.not_lt_zero _)) ?_
  rw [← e]
  exact ⟨.bl _, _, inv, rfl, q⟩
theorem rd_neE {H : Hp} {a b : Addr} {xs : List V} {Q : VK} (ha : H a = some (.lst xs)) (hb : H b = some (.lst [])) (h : Q (.bl (!xs.isEmpty)) H) : rNeE (.ref a) (.ref b) H Q := ⟨a, b, xs, rfl, rfl, ha, hb, h⟩
theorem rd_eqE {H : Hp} {a b : Addr} {xs : List V} {Q : VK} (ha : H a = some (.tup xs)) (hb : H b = some (.tup [])) (h : Q (.bl xs.isEmpty) H) : rEqE (.ref a) (.ref b) H Q := ⟨a, b, xs, rfl, rfl, ha, hb, h⟩
end
end EW
namespace EW
open PySem L2
/-! ### the layer's rules with the written part named -/
section
variable {X : Cx} {K : PySem.W.Frag} {e o : Expr} {f : Str} {pos : Pos} {ta : TE}
def rLenQ (K : PySem.W.Frag) : List V → Hp → VK → Prop := fun xs H Q => ∃ p ys, xs = [.ref p] ∧ (SqL K H p ys ∨ SqT K H p ys) ∧ Q (.int ys.length) H
theorem w_len (hK : X.K = K) : CallR X (.builtin "len") (rLenQ K) := by subst hK; exact call_len_seq
theorem w_isi (hK : X.K = K) : CallR X (.builtin "isinstance") (rIsi K) := by subst hK; exact call_isi
theorem w_sum (hK : X.K = K) (hc : X.calm = true) : CallR X (.builtin "sum") (rSum K) := by subst hK; exact cr_sum hc
theorem w_sortedI (hK : X.K = K) : CallR X (.builtin "sorted") (rSortedI K) := by subst hK; exact cr_sortedI
theorem w_fld (hK : X.K = K) (he : PE X e ta) (hb : attributeBase e f X.env (eval e X.env) = eval e X.env) : PE X (.Attribute e f pos) (tFld K ta f) := by subst hK; exact pe_fld he hb
theorem w_ixL (hK : X.K = K) : IxR X (rIxL K) := by subst hK; exact ix_list
theorem w_ixT (hK : X.K = K) : IxR X (rIxT K) := by subst hK; exact ix_tup
theorem w_in (hK : X.K = K) : OpR X (compareOp .In) (rIn K false) := by subst hK; exact op_in_seq
theorem w_notIn (hK : X.K = K) : OpR X (compareOp .NotIn) (rIn K true) := by subst hK; exact op_notIn_seq
theorem w_eqD (hK : X.K = K) (hu : X.A.units + 64 < cLine) : OpR X (compareOp .Eq) (rEqD K) := by subst hK; exact op_eqD hu
theorem w_neD (hK : X.K = K) (hu : X.A.units + 64 < cLine) : OpR X (compareOp .NotEq) (rNeD K) := by subst hK; exact op_neD hu
theorem w_slT (hK : X.K = K) : SlR X (rSlA K) := by subst hK; exact sl_tupA
theorem w_slL (hK : X.K = K) : SlR X (rSlL K) := by subst hK; exact sl_list
theorem w_catT (hK : X.K = K) : OpR X (binaryOp .Add) (rCatA K) := by subst hK; exact op_catA
theorem w_piL {tg l : Expr} {tl : TE} (hK : X.K = K) (hl : PE X l tl) : PI X tg l (iList K tl) := by subst hK; exact pi_list hl
theorem w_piT {tg l : Expr} {tl : TE} (hK : X.K = K) (hl : PE X l tl) : PI X tg l (iTup K tl) := by subst hK; exact pi_tup hl
theorem w_pgT {es : List Expr} {k : Nat} {t : TGs} {n : Nat} (hK : X.K = K) (hc : X.calm = true) (h : PGs X es t) (hn : (assignEach es X.env).length = n) (hst : (assignEach es X.env).findIdx? (·.1) = none) : PG X (.Tuple es k pos) (gTup K n t) := by subst hK; exact pg_tup hc h hn hst
theorem w_tupleOf {a : Expr} {p : Pos} (hK : X.K = K) (hg : Gl X "tuple") (hm : X.mg "tuple" = none) (ha : PE X a ta) (na : starEach [a] X.env = (false, eval a X.env) :: starEach [] X.env) : PE X (.Call (.Name "tuple" p) [a] [] pos) (tThen ta (kTup K)) := by subst hK; exact pe_tupleOf hg hm ha na
theorem rd_lenL {H : Hp} {p : Addr} {xs : List V} {Q : VK} (s : SqL K H p xs) (h : Q (.int xs.length) H) : rLenQ K [.ref p] H Q := ⟨p, xs, rfl, .inl s, h⟩
theorem rd_lenT {H : Hp} {p : Addr} {xs : List V} {Q : VK} (s : H p = some (.tup xs)) (h : Q (.int xs.length) H) : rLenQ K [.ref p] H Q := ⟨p, xs, rfl, .inr (SqT.of s), h⟩
end
end EW

end
namespace EW
/-! what the sites' walk gathers: for each fun what it uses from outside, as the lists grow -/
abbrev Us := List (Nat × List Nat)
/-- a look at site s within the funs ar -/
def look1 (ar : List Nat) (s : Nat) (us : Us) : Us := us.map fun u => if u.1 ∈ ar ∧ s < u.1 ∧ s ∉ u.2 then (u.1, u.2 ++ [s]) else u
def mU : E → Sc → Nat → List Nat → Us → Us
  | .num _, _, _, _, us => us
  | .name k, c, _, ar, us => look1 ar ((c k).getD 0) us
  | .plus a b, c, n, ar, us => mU b c (n + a.ns) ar (mU a c n ar us)
  | .lt k a b, c, n, ar, us => mU b (c.set k n) (n + 1 + a.ns) ar (mU a c (n + 1) ar us)
  | .fn k b, c, n, ar, us => mU b (c.set k n) (n + 1) (ar ++ [n]) (us ++ [(n, [])])
  | .call a b, c, n, ar, us => mU b c (n + a.ns) ar (mU a c n ar us)
  | .ite d a b, c, n, ar, us => mU b c (n + d.ns + a.ns) ar (mU a c (n + d.ns) ar (mU d c n ar us))
/-- the same for several expressions, one behind the other -/
def nsL : List E → Nat
  | [] => 0
  | e :: r => e.ns + nsL r
def sitL : List E → Sc → Nat → List E
  | [], _, _ => []
  | e :: r, c, n => sit e c n :: sitL r c (n + e.ns)
def ownL : List E → Option Nat → Nat → List (Option Nat)
  | [], _, _ => []
  | e :: r, o, n => own e o n ++ ownL r o (n + e.ns)
def funsL : List E → Nat → List Nat
  | [], _ => []
  | e :: r, n => funs e n ++ funsL r (n + e.ns)
def mUL : List E → Sc → Nat → List Nat → Us → Us
  | [], _, _, _, us => us
  | e :: r, c, n, ar, us => mUL r c (n + e.ns) ar (mU e c n ar us)
theorem nsL_snoc (l : List E) (e : E) : nsL (l ++ [e]) = nsL l + e.ns := by
  induction l with
  | nil => simp [nsL]
  | cons x r ih => simp [nsL, ih]; omega
theorem sitL_snoc (l : List E) (e : E) (c : Sc) : ∀ n, sitL (l ++ [e]) c n = sitL l c n ++ [sit e c (n + nsL l)] := by
  induction l with
  | nil => intro n; simp [sitL, nsL]
  | cons x r ih => intro n; simp [sitL, nsL, ih, Nat.add_assoc]
theorem ownL_snoc (l : List E) (e : E) (o : Option Nat) : ∀ n, ownL (l ++ [e]) o n = ownL l o n ++ own e o (n + nsL l) := by
  induction l with
  | nil => intro n; simp [ownL, nsL]
  | cons x r ih => intro n; simp [ownL, nsL, ih, Nat.add_assoc]
theorem funsL_snoc (l : List E) (e : E) : ∀ n, funsL (l ++ [e]) n = funsL l n ++ funs e (n + nsL l) := by
  induction l with
  | nil => intro n; simp [funsL, nsL]
  | cons x r ih => intro n; simp [funsL, nsL, ih, Nat.add_assoc]
theorem mUL_snoc (l : List E) (e : E) (c : Sc) (ar : List Nat) : ∀ n us, mUL (l ++ [e]) c n ar us = mU e c (n + nsL l) ar (mUL l c n ar us) := by
  induction l with
  | nil => intro n us; simp [mUL, nsL]
  | cons x r ih => intro n us; simp [mUL, nsL, ih, Nat.add_assoc]
theorem ownL_length (l : List E) (o : Option Nat) : ∀ n, (ownL l o n).length = nsL l := by
  induction l with
  | nil => intro n; rfl
  | cons x r ih => intro n; simp [ownL, nsL, ih, own_length]
theorem look1_keys (ar : List Nat) (s : Nat) (us : Us) : (look1 ar s us).map (·.1) = us.map (·.1) := by
  unfold look1
  rw [List.map_map]
  refine List.map_congr_left fun u _ => ?_
  show (if u.1 ∈ ar ∧ s < u.1 ∧ s ∉ u.2 then (u.1, u.2 ++ [s]) else u).1 = u.1
  split <;> rfl
theorem mU_keys : ∀ (e : E) (c : Sc) (n : Nat) (ar : List Nat) (us : Us), (mU e c n ar us).map (·.1) = us.map (·.1) ++ funs e n
  | .num _, _, _, _, us => by simp [mU, funs]
  | .name k, c, _, ar, us => by simp only [mU, funs, List.append_nil]; exact look1_keys _ _ _
  | .plus a b, c, n, ar, us => by simp only [mU, funs]; rw [mU_keys b, mU_keys a, List.append_assoc]
  | .lt k a b, c, n, ar, us => by simp only [mU, funs]; rw [mU_keys b, mU_keys a, List.append_assoc]
  | .fn k b, c, n, ar, us => by simp only [mU, funs]; rw [mU_keys b, List.map_append, List.append_assoc]; rfl
  | .call a b, c, n, ar, us => by simp only [mU, funs]; rw [mU_keys b, mU_keys a, List.append_assoc]
  | .ite d a b, c, n, ar, us => by simp only [mU, funs]; rw [mU_keys b, mU_keys a, mU_keys d, List.append_assoc, List.append_assoc]
theorem funs_range : ∀ (e : E) (n : Nat), ∀ f ∈ funs e n, n ≤ f ∧ f < n + e.ns
  | .num _, _, f, h => nomatch h
  | .name _, _, f, h => nomatch h
  | .plus a b, n, f, h => by
    simp only [funs, List.mem_append] at h
    simp only [E.ns]
    rcases h with h | h
    · have := funs_range a n f h; omega
    · have := funs_range b _ f h; omega
  | .lt k a b, n, f, h => by
    simp only [funs, List.mem_append] at h
    simp only [E.ns]
    rcases h with h | h
    · have := funs_range a _ f h; omega
    · have := funs_range b _ f h; omega
  | .fn k b, n, f, h => by
    simp only [funs, List.mem_cons] at h
    simp only [E.ns]
    rcases h with h | h
    · omega
    · have := funs_range b _ f h; omega
  | .call a b, n, f, h => by
    simp only [funs, List.mem_append] at h
    simp only [E.ns]
    rcases h with h | h
    · have := funs_range a n f h; omega
    · have := funs_range b _ f h; omega
  | .ite d a b, n, f, h => by
    simp only [funs, List.mem_append] at h
    simp only [E.ns]
    rcases h with h | h | h
    · have := funs_range d n f h; omega
    · have := funs_range a _ f h; omega
    · have := funs_range b _ f h; omega
theorem E.ns_le_size : ∀ e : E, e.ns ≤ e.size
  | .num _ => Nat.zero_le _
  | .name _ => Nat.zero_le _
  | .plus a b => by have := E.ns_le_size a; have := E.ns_le_size b; simp only [E.ns, E.size]; omega
  | .lt _ a b => by have := E.ns_le_size a; have := E.ns_le_size b; simp only [E.ns, E.size]; omega
  | .fn _ b => by have := E.ns_le_size b; simp only [E.ns, E.size]; omega
  | .call a b => by have := E.ns_le_size a; have := E.ns_le_size b; simp only [E.ns, E.size]; omega
  | .ite d a b => by have := E.ns_le_size d; have := E.ns_le_size a; have := E.ns_le_size b; simp only [E.ns, E.size]; omega
end EW
namespace EW
/-- each fun's list: no site twice, all ahead of the fun -/
def Good (us : Us) : Prop := ∀ u ∈ us, u.2.Nodup ∧ ∀ s ∈ u.2, s < u.1
theorem nd_snoc0 {α : Type} : ∀ {l : List α} {k : α}, l.Nodup → k ∉ l → (l ++ [k]).Nodup
  | [], k, _, _ => by simp
  | x :: r, k, n, h => by
    rw [List.nodup_cons] at n
    rw [List.cons_append, List.nodup_cons]
    refine ⟨fun z => ?_, nd_snoc0 n.2 fun z => h (List.mem_cons_of_mem _ z)⟩
    rcases List.mem_append.mp z with z | z
    · exact n.1 z
    · exact h (by rw [List.mem_singleton.mp z]; exact List.mem_cons_self)
theorem Good.look {us : Us} (h : Good us) (ar : List Nat) (s : Nat) : Good (look1 ar s us) := by
  intro u hu
  obtain ⟨x, hx, rfl⟩ := List.mem_map.mp hu
  have hg := h x hx
  by_cases c : x.1 ∈ ar ∧ s < x.1 ∧ s ∉ x.2
  · rw [if_pos c]
    refine ⟨nd_snoc0 hg.1 c.2.2, fun t ht => ?_⟩
    rcases List.mem_append.mp ht with ht | ht
    · exact hg.2 t ht
    · rw [List.mem_singleton.mp ht]
      exact c.2.1
  · rw [if_neg c]
    exact hg
theorem Good.mU : ∀ (e : E) (c : Sc) (n : Nat) (ar : List Nat) {us : Us}, Good us → Good (EW.mU e c n ar us)
  | .num _, _, _, _, _, h => h
  | .name k, c, _, ar, _, h => h.look ar _
  | .plus a b, c, n, ar, _, h => Good.mU b _ _ _ (Good.mU a _ _ _ h)
  | .lt k a b, c, n, ar, _, h => Good.mU b _ _ _ (Good.mU a _ _ _ h)
  | .fn k b, c, n, ar, us, h => Good.mU b _ _ _ (fun u hu => by
      rcases List.mem_append.mp hu with hu | hu
      · exact h u hu
      · rw [List.mem_singleton.mp hu]
        exact ⟨List.nodup_nil, fun _ z => nomatch z⟩)
  | .call a b, c, n, ar, _, h => Good.mU b _ _ _ (Good.mU a _ _ _ h)
  | .ite d a b, c, n, ar, _, h => Good.mU b _ _ _ (Good.mU a _ _ _ (Good.mU d _ _ _ h))
def lookF (ar : List Nat) (s : Nat) (u : Nat × List Nat) : Nat × List Nat := if u.1 ∈ ar ∧ s < u.1 ∧ s ∉ u.2 then (u.1, u.2 ++ [s]) else u
theorem lookF_snoc (l : List Nat) (f s : Nat) (u : Nat × List Nat) : lookF [f] s (lookF l s u) = lookF (l ++ [f]) s u := by
  by_cases c : u.1 ∈ l ∧ s < u.1 ∧ s ∉ u.2
  · have e1 : lookF l s u = (u.1, u.2 ++ [s]) := if_pos c
    have e2 : lookF (l ++ [f]) s u = (u.1, u.2 ++ [s]) := if_pos ⟨List.mem_append.mpr (.inl c.1), c.2⟩
    rw [e1, e2]
    exact if_neg fun z => z.2.2 (List.mem_append.mpr (.inr List.mem_cons_self))
  · have e1 : lookF l s u = u := if_neg c
    rw [e1]
    by_cases d : u.1 ∈ [f] ∧ s < u.1 ∧ s ∉ u.2
    · have e2 : lookF (l ++ [f]) s u = (u.1, u.2 ++ [s]) := if_pos ⟨List.mem_append.mpr (.inr d.1), d.2⟩
      rw [e2]
      exact if_pos d
    · have e2 : lookF (l ++ [f]) s u = u := if_neg fun z => by
        rcases List.mem_append.mp z.1 with q | q
        · exact c ⟨q, z.2⟩
        · exact d ⟨q, z.2⟩
      rw [e2]
      exact if_neg d
theorem look1_snoc (l : List Nat) (f s : Nat) (us : Us) : look1 [f] s (look1 l s us) = look1 (l ++ [f]) s us := by
  show (us.map (lookF l s)).map (lookF [f] s) = us.map (lookF (l ++ [f]) s)
  rw [List.map_map]
  exact List.map_congr_left fun u _ => lookF_snoc l f s u
theorem look1_nil (s : Nat) (us : Us) : look1 [] s us = us := by
  unfold look1
  conv => rhs; rw [← List.map_id us]
  refine List.map_congr_left fun u _ => ?_
  rw [if_neg (fun z => nomatch z.1)]
  rfl
theorem funs_length : ∀ (e : E) (n : Nat), (funs e n).length ≤ e.ns
  | .num _, _ => Nat.zero_le _
  | .name _, _ => Nat.zero_le _
  | .plus a b, n => by have := funs_length a n; have := funs_length b (n + a.ns); simp only [funs, E.ns, List.length_append]; omega
  | .lt _ a b, n => by have := funs_length a (n + 1); have := funs_length b (n + 1 + a.ns); simp only [funs, E.ns, List.length_append]; omega
  | .fn _ b, n => by have := funs_length b (n + 1); simp only [funs, E.ns, List.length_cons]; omega
  | .call a b, n => by have := funs_length a n; have := funs_length b (n + a.ns); simp only [funs, E.ns, List.length_append]; omega
  | .ite d a b, n => by have := funs_length d n; have := funs_length a (n + d.ns); have := funs_length b (n + d.ns + a.ns); simp only [funs, E.ns, List.length_append]; omega
end EW
namespace EW
def sc0 : Sc := fun _ => none
/-- the sites that an activation of o binds -/
def sitesBy (ow : List (Option Nat)) (o : Option Nat) : List Nat := (List.range ow.length).filter fun s => decide (ow[s]? = some o)
def housed (us : Us) (s : Nat) : Bool := us.any fun u => decide (s ∈ u.2)
def houseBy (ow : List (Option Nat)) (us : Us) (o : Option Nat) : List Nat := (sitesBy ow o).filter (housed us)
/-- what a fun uses from outside -/
def usedOf (us : Us) (f : Nat) : List Nat := (us.lookup f).getD []
end EW

/-! The machine that does a program step by step, and that it does what R says. -/
namespace EW
/-- what a program's parts come to -/
inductive Wo where
  | int (n : Nat)
  | clo (s : Nat) (b : E) (u : Nat)
inductive Tk where
  | run (e : E) (h : Nat)
  | plus
  | bind (s : Nat) (e : E) (h : Nat)
  | ite (a b : E) (h : Nat)
  | call
structure Lg where
  ow : List (Option Nat)
  up : List (Option Nat)
  wo : List ((Nat × Nat) × Wo)
  lk : List (Nat × Nat × Nat)
  md : List Nat
structure MS where
  left : Nat
  lg : Lg
  wk : List Tk
  rs : List Wo
  out : Option Out
def Wo.isClo : Wo → Prop
  | .int _ => False
  | .clo _ _ _ => True
def Val.wo : Val → Wo
  | .int n => .int n
  | .clo k b s r y => .clo s (sit b (r.sc.set k s) (s + 1)) y
def Lg.ev (L : Lg) : Ev → Lg
  | .act s y => { L with ow := L.ow ++ [some s], up := L.up ++ [some y] }
  | .bind a s v => { L with wo := L.wo ++ [((a, s), v.wo)] }
  | .look h a s => { L with lk := L.lk ++ [(h, a, s)] }
  | .made s => { L with md := L.md ++ [s] }
def Lg.evs (L : Lg) (t : List Ev) : Lg := t.foldl Lg.ev L
theorem Lg.evs_nil (L : Lg) : L.evs [] = L := rfl
theorem Lg.evs_append (L : Lg) (t u : List Ev) : L.evs (t ++ u) = (L.evs t).evs u := List.foldl_append ..
theorem Lg.evs_cons (L : Lg) (x : Ev) (u : List Ev) : L.evs (x :: u) = (L.ev x).evs u := rfl
theorem Lg.ow_evs (L : Lg) (t : List Ev) : (L.evs t).ow.length = L.ow.length + nact t := by
  induction t generalizing L with
  | nil => rfl
  | cons x t ih =>
    rw [Lg.evs_cons, ih]
    cases x with
    | act s y => rw [nact_act]; simp [Lg.ev]; omega
    | bind a s v => rw [nact_bind] <;> rfl
    | look h a s => rw [nact_look] <;> rfl
    | made s => rw [nact_made] <;> rfl
theorem Lg.up_evs (L : Lg) (t : List Ev) : (L.evs t).up.length = L.up.length + nact t := by
  induction t generalizing L with
  | nil => rfl
  | cons x t ih =>
    rw [Lg.evs_cons, ih]
    cases x with
    | act s y => rw [nact_act]; simp [Lg.ev]; omega
    | bind a s v => rw [nact_bind] <;> rfl
    | look h a s => rw [nact_look] <;> rfl
    | made s => rw [nact_made] <;> rfl
/-- the activation that binds s, going up from h (so: each site's fun) -/
inductive Reach (so : Nat → Option (Option Nat)) (L : Lg) : Nat → Nat → Nat → Prop where
  | here {h s x} (g : so s = some x) (e : L.ow[h]? = some x) : Reach so L h s h
  | up {h s a h' o x} (g : so s = some x) (e : L.ow[h]? = some o) (n : o ≠ x) (u : L.up[h]? = some (some h')) (r : Reach so L h' s a) : Reach so L h s a
inductive Step (so : Nat → Option (Option Nat)) : MS → MS → Prop where
  | num {l L wk rs m h} : Step so ⟨l, L, wk ++ [.run (.num m) h], rs, none⟩ ⟨l, L, wk, rs ++ [.int m], none⟩
  | name {l L wk rs s h a w} (r : Reach so L h s a) (g : L.wo.lookup (a, s) = some w) : Step so ⟨l, L, wk ++ [.run (.name s) h], rs, none⟩ ⟨l, { L with lk := L.lk ++ [(h, a, s)] }, wk, rs ++ [w], none⟩
  | fn {l L wk rs s b h} : Step so ⟨l, L, wk ++ [.run (.fn s b) h], rs, none⟩ ⟨l, { L with md := L.md ++ [s] }, wk, rs ++ [.clo s b h], none⟩
  | lt {l L wk rs s a b h} : Step so ⟨l, L, wk ++ [.run (.lt s a b) h], rs, none⟩ ⟨l, L, wk ++ [.bind s b h, .run a h], rs, none⟩
  | ite0 {l L wk rs c a b h} : Step so ⟨l, L, wk ++ [.run (.ite c a b) h], rs, none⟩ ⟨l, L, wk ++ [.ite a b h, .run c h], rs, none⟩
  | plus0 {l L wk rs a b h} : Step so ⟨l, L, wk ++ [.run (.plus a b) h], rs, none⟩ ⟨l, L, wk ++ [.plus, .run b h, .run a h], rs, none⟩
  | call0 {l L wk rs a b h} : Step so ⟨l, L, wk ++ [.run (.call a b) h], rs, none⟩ ⟨l, L, wk ++ [.call, .run b h, .run a h], rs, none⟩
  | bind {l L wk rs s b h w} (f : L.wo.lookup (h, s) = none) : Step so ⟨l, L, wk ++ [.bind s b h], rs ++ [w], none⟩ ⟨l, { L with wo := L.wo ++ [((h, s), w)] }, wk ++ [.run b h], rs, none⟩
  | plus {l L wk rs i j} : Step so ⟨l, L, wk ++ [.plus], rs ++ [.int i, .int j], none⟩ ⟨l, L, wk, rs ++ [.int ((i + j) % 1000)], none⟩
  | plusF {l L wk rs v w} (f : v.isClo ∨ w.isClo) : Step so ⟨l, L, wk ++ [.plus], rs ++ [v, w], none⟩ ⟨l, L, wk, rs, some .number⟩
  | iteT {l L wk rs a b h i} (f : i ≠ 0) : Step so ⟨l, L, wk ++ [.ite a b h], rs ++ [.int i], none⟩ ⟨l, L, wk ++ [.run a h], rs, none⟩
  | iteE {l L wk rs a b h} : Step so ⟨l, L, wk ++ [.ite a b h], rs ++ [.int 0], none⟩ ⟨l, L, wk ++ [.run b h], rs, none⟩
  | iteF {l L wk rs a b h w} (f : w.isClo) : Step so ⟨l, L, wk ++ [.ite a b h], rs ++ [w], none⟩ ⟨l, L, wk, rs, some .number⟩
  | callF {l L wk rs i w} : Step so ⟨l, L, wk ++ [.call], rs ++ [.int i, w], none⟩ ⟨l, L, wk, rs, some .function⟩
  | callL {L wk rs s b u w} : Step so ⟨0, L, wk ++ [.call], rs ++ [.clo s b u, w], none⟩ ⟨0, L, wk, rs, some .still⟩
  | call {l L wk rs s b u w} (f : L.wo.lookup (L.ow.length, s) = none) : Step so ⟨l + 1, L, wk ++ [.call], rs ++ [.clo s b u, w], none⟩
      ⟨l, { L with ow := L.ow ++ [some s], up := L.up ++ [some u], wo := L.wo ++ [((L.ow.length, s), w)] }, wk ++ [.run b L.ow.length], rs, none⟩
inductive Steps (so : Nat → Option (Option Nat)) : Nat → MS → MS → Prop where
  | nil {M} : Steps so 0 M M
  | cons {k M N O} (s : Step so M N) (r : Steps so k N O) : Steps so (k + 1) M O
theorem Steps.trans {so : Nat → Option (Option Nat)} {j k : Nat} {M N O : MS} (x : Steps so j M N) (y : Steps so k N O) : Steps so (j + k) M O := by
  induction x with
  | nil => rw [Nat.zero_add]; exact y
  | cons s _ ih => rw [Nat.add_right_comm]; exact .cons s (ih y)
theorem Steps.one {so : Nat → Option (Option Nat)} {M N : MS} (s : Step so M N) : Steps so 1 M N := .cons s .nil
/-! ### what holds along the way -/
structure Lg.Le (L L' : Lg) : Prop where
  ow : ∀ (i : Nat) o, L.ow[i]? = some o → L'.ow[i]? = some o
  up : ∀ (i : Nat) o, L.up[i]? = some o → L'.up[i]? = some o
  wo : ∀ k w, L.wo.lookup k = some w → L'.wo.lookup k = some w
theorem Lg.Le.refl {L : Lg} : L.Le L := ⟨fun _ _ h => h, fun _ _ h => h, fun _ _ h => h⟩
theorem Lg.Le.trans {L L1 L2 : Lg} (x : L.Le L1) (y : L1.Le L2) : L.Le L2 := ⟨fun i o h => y.ow i o (x.ow i o h), fun i o h => y.up i o (x.up i o h), fun k w h => y.wo k w (x.wo k w h)⟩
theorem Reach.mono {so : Nat → Option (Option Nat)} {L L' : Lg} {h s a : Nat} (x : L.Le L') (r : Reach so L h s a) : Reach so L' h s a := by
  induction r with
  | here g e => exact .here g (x.ow _ _ e)
  | up g e n u _ ih => exact .up g (x.ow _ _ e) n (x.up _ _ u) ih
theorem Reach.so {so : Nat → Option (Option Nat)} {L : Lg} {h s a : Nat} (r : Reach so L h s a) : ∃ x, so s = some x := by
  cases r with
  | here g _ => exact ⟨_, g⟩
  | up g _ _ _ _ => exact ⟨_, g⟩
def FitsL (so : Nat → Option (Option Nat)) (l : List (Option Nat)) (n : Nat) : Prop := ∀ (i : Nat) x, l[i]? = some x → so (n + i) = some x
theorem FitsL.left {so : Nat → Option (Option Nat)} {l m : List (Option Nat)} {n : Nat} (h : FitsL so (l ++ m) n) : FitsL so l n := fun i x e => h i x (by
  rw [List.getElem?_append_left (List.getElem?_eq_some_iff.mp e).1]; exact e)
theorem FitsL.right {so : Nat → Option (Option Nat)} {l m : List (Option Nat)} {n k : Nat} (h : FitsL so (l ++ m) n) (e : k = n + l.length) : FitsL so m k := fun i x g => by
  have := h (l.length + i) x (by rw [List.getElem?_append_right (by omega)]; simpa using g)
  rw [e, Nat.add_assoc]
  exact this
theorem FitsL.head {so : Nat → Option (Option Nat)} {x : Option Nat} {l : List (Option Nat)} {n : Nat} (h : FitsL so (x :: l) n) : so n = some x := h 0 x rfl
theorem FitsL.tail {so : Nat → Option (Option Nat)} {x : Option Nat} {l : List (Option Nat)} {n : Nat} (h : FitsL so (x :: l) n) : FitsL so l (n + 1) := fun i y g => by
  have := h (i + 1) y (by simpa using g)
  rw [Nat.add_assoc, Nat.add_comm 1 i]
  exact this
mutual
def Val.Ok (so : Nat → Option (Option Nat)) (L : Lg) (S : Nat) : Val → Prop
  | .int _ => True
  | .clo k b s r y => so s = some (some s) ∧ FitsL so (own b (some s) (s + 1)) (s + 1) ∧ b.size ≤ S ∧ y < L.ow.length ∧ r.Ok so L S y s
def Env.Ok (so : Nat → Option (Option Nat)) (L : Lg) (S : Nat) : Env → Nat → Nat → Prop
  | .nil, _, _ => True
  | .cons k a s v r, h, n => s < n ∧ Reach so L h s a ∧ L.wo.lookup (a, s) = some v.wo ∧ v.Ok so L S ∧ r.Ok so L S h n
end
mutual
theorem Val.Ok.mono {so : Nat → Option (Option Nat)} {L L' : Lg} {S : Nat} (x : L.Le L') (hl : L.ow.length ≤ L'.ow.length) : ∀ {v : Val}, v.Ok so L S → v.Ok so L' S
  | .int _, _ => by rw [Val.Ok]; trivial
  | .clo k b s r y, h => by
    rw [Val.Ok] at h ⊢
    exact ⟨h.1, h.2.1, h.2.2.1, Nat.lt_of_lt_of_le h.2.2.2.1 hl, Env.Ok.mono x hl (Nat.le_refl _) h.2.2.2.2⟩
theorem Env.Ok.mono {so : Nat → Option (Option Nat)} {L L' : Lg} {S : Nat} (x : L.Le L') (hl : L.ow.length ≤ L'.ow.length) : ∀ {r : Env} {h n n' : Nat}, n ≤ n' → r.Ok so L S h n → r.Ok so L' S h n'
  | .nil, _, _, _, _, _ => by rw [Env.Ok]; trivial
  | .cons k a s v r, h, n, n', hn, q => by
    rw [Env.Ok] at q ⊢
    exact ⟨Nat.lt_of_lt_of_le q.1 hn, q.2.1.mono x, x.wo _ _ q.2.2.1, Val.Ok.mono x hl q.2.2.2.1, Env.Ok.mono x hl hn q.2.2.2.2⟩
end
theorem Env.Ok.get {so : Nat → Option (Option Nat)} {L : Lg} {S : Nat} : ∀ {r : Env} {h n k a s : Nat} {v : Val}, r.Ok so L S h n → r.get k = some (a, s, v) → Reach so L h s a ∧ L.wo.lookup (a, s) = some v.wo ∧ v.Ok so L S
  | .nil, _, _, _, _, _, _, _, g => by cases g
  | .cons j a' s' v' r, h, n, k, a, s, v, q, g => by
    rw [Env.get] at g
    rw [Env.Ok] at q
    by_cases c : k = j
    · rw [if_pos c] at g; cases g; exact ⟨q.2.1, q.2.2.1, q.2.2.2.1⟩
    · rw [if_neg c] at g; exact Env.Ok.get q.2.2.2.2 g
/-- a new activation sees what its function's names are bound to -/
theorem Env.Ok.deep {so : Nat → Option (Option Nat)} {L : Lg} {S : Nat} (hso : ∀ s f, so s = some (some f) → f ≤ s) {j y s : Nat} (e : L.ow[j]? = some (some s)) (u : L.up[j]? = some (some y)) : ∀ {r : Env}, r.Ok so L S y s → r.Ok so L S j (s + 1)
  | .nil, _ => by rw [Env.Ok]; trivial
  | .cons k a s' v r, q => by
    rw [Env.Ok] at q ⊢
    obtain ⟨x, gx⟩ := q.2.1.so
    exact ⟨Nat.lt_succ_of_lt q.1, .up gx e (fun z => by have := hso s' s (by rw [gx, ← z]); have := q.1; omega) u q.2.1, q.2.2.1, q.2.2.2.1, Env.Ok.deep hso e u q.2.2.2.2⟩
theorem lookup_none_append {α β : Type} [BEq α] {k : α} : ∀ {l m : List (α × β)}, l.lookup k = none → (l ++ m).lookup k = m.lookup k
  | [], _, _ => rfl
  | (a, b) :: l, m, h => by
    rw [List.cons_append, List.lookup_cons]
    rw [List.lookup_cons] at h
    cases e : k == a with
    | true => rw [e] at h; cases h
    | false => rw [e] at h; exact lookup_none_append h
theorem lookup_some_append {α β : Type} [BEq α] {k : α} {b : β} : ∀ {l m : List (α × β)}, l.lookup k = some b → (l ++ m).lookup k = some b
  | [], _, h => by cases h
  | (a, c) :: l, m, h => by
    rw [List.cons_append, List.lookup_cons]
    rw [List.lookup_cons] at h
    cases e : k == a with
    | true => rw [e] at h; exact h
    | false => rw [e] at h; exact lookup_some_append h
theorem Lg.Le.ev (L : Lg) (x : Ev) : L.Le (L.ev x) := by
  cases x with
  | act s y => exact ⟨fun i o h => by show (L.ow ++ [some s])[i]? = some o; rw [List.getElem?_append_left (List.getElem?_eq_some_iff.mp h).1]; exact h, fun i o h => by show (L.up ++ [some y])[i]? = some o; rw [List.getElem?_append_left (List.getElem?_eq_some_iff.mp h).1]; exact h, fun _ _ h => h⟩
  | bind a s v => exact ⟨fun _ _ h => h, fun _ _ h => h, fun _ _ h => lookup_some_append h⟩
  | look h a s => exact ⟨fun _ _ h => h, fun _ _ h => h, fun _ _ h => h⟩
  | made s => exact ⟨fun _ _ h => h, fun _ _ h => h, fun _ _ h => h⟩
theorem Lg.Le.evs (L : Lg) (t : List Ev) : L.Le (L.evs t) := by
  induction t generalizing L with
  | nil => exact .refl
  | cons x t ih => exact (Lg.Le.ev L x).trans (ih _)
/-- no binding of an activation that there isn't -/
def FrA (L : Lg) : Prop := ∀ a s, L.ow.length ≤ a → L.wo.lookup (a, s) = none
/-- what h's sites n .. n + m and new activations alone have bound -/
def Pst (L : Lg) (h n m : Nat) (L' : Lg) : Prop := ∀ a s, L.wo.lookup (a, s) = none → a < L.ow.length → ¬ (a = h ∧ n ≤ s ∧ s < n + m) → L'.wo.lookup (a, s) = none
def Fsh (L : Lg) (h n m : Nat) : Prop := ∀ s, n ≤ s → s < n + m → L.wo.lookup (h, s) = none
end EW

namespace EW
structure Pre (so : Nat → Option (Option Nat)) (L : Lg) (S : Nat) (e : E) (n : Nat) (r : Env) (h na : Nat) (o : Option Nat) : Prop where
  al : L.ow.length = na
  ul : L.up.length = na
  ho : L.ow[h]? = some o
  env : r.Ok so L S h n
  fit : FitsL so (own e o n) n
  sz : e.size ≤ S
  fsh : Fsh L h n e.ns
  fra : FrA L
def Fin (l : Nat) (L : Lg) (wk : List Tk) (rs : List Wo) : Res → MS → Prop
  | .val v, M => M = ⟨l, L, wk, rs ++ [v.wo], none⟩
  | .out x, M => M.left = l ∧ M.lg = L ∧ M.out = some x
def Con (so : Nat → Option (Option Nat)) (S : Nat) (e : E) (n : Nat) (r : Env) (h left : Nat) (t : List Ev) (L : Lg) (res : Res) : Prop :=
  ∀ wk rs, ∃ k M, k ≤ 3 * e.size + 3 * S * nact t ∧ Steps so k ⟨left, L, wk ++ [.run (sit e r.sc n) h], rs, none⟩ M ∧ Fin (left - nact t) (L.evs t) wk rs res M
structure PosR (so : Nat → Option (Option Nat)) (S : Nat) (e : E) (n : Nat) (r : Env) (h left : Nat) (t : List Ev) (L : Lg) (res : Res) : Prop where
  con : Con so S e n r h left t L res
  ok : ∀ v, res = .val v → v.Ok so (L.evs t) S
  fra : FrA (L.evs t)
  pst : Pst L h n e.ns (L.evs t)
theorem lt_of_get {α : Type} {l : List α} {i : Nat} {x : α} (h : l[i]? = some x) : i < l.length := (List.getElem?_eq_some_iff.mp h).1
theorem Fsh.next {L L' : Lg} {h n m n1 m1 n2 m2 : Nat} (f : Fsh L h n m) (q : Pst L h n1 m1 L') (hl : h < L.ow.length) (c1 : n ≤ n2) (c2 : n2 + m2 ≤ n + m) (c3 : n1 + m1 ≤ n2) : Fsh L' h n2 m2 :=
  fun s h1 h2 => q h s (f s (by omega) (by omega)) hl (fun z => by omega)
theorem Fsh.part {L : Lg} {h n m n2 m2 : Nat} (f : Fsh L h n m) (c1 : n ≤ n2) (c2 : n2 + m2 ≤ n + m) : Fsh L h n2 m2 := fun s h1 h2 => f s (by omega) (by omega)
theorem Pst.refl {L : Lg} {h n m : Nat} : Pst L h n m L := fun _ _ h _ _ => h
theorem Pst.trans {L L1 L2 : Lg} {h n m n1 m1 n2 m2 : Nat} (x : Pst L h n1 m1 L1) (y : Pst L1 h n2 m2 L2) (hl : L.ow.length ≤ L1.ow.length) (c1 : n ≤ n1) (c2 : n1 + m1 ≤ n + m) (c3 : n ≤ n2) (c4 : n2 + m2 ≤ n + m) : Pst L h n m L2 :=
  fun a s h1 h2 h3 => y a s (x a s h1 h2 fun z => h3 ⟨z.1, by omega, by omega⟩) (by omega) fun z => h3 ⟨z.1, by omega, by omega⟩
theorem Pst.wide {L L1 : Lg} {h n m n1 m1 : Nat} (x : Pst L h n1 m1 L1) (c1 : n ≤ n1) (c2 : n1 + m1 ≤ n + m) : Pst L h n m L1 := fun a s h1 h2 h3 => x a s h1 h2 fun z => h3 ⟨z.1, by omega, by omega⟩
theorem lookup_one {a s h n : Nat} {w : Wo} (c : ¬ (a = h ∧ s = n)) : [((h, n), w)].lookup (a, s) = none := by
  rw [List.lookup_cons]
  have : ((a, s) == (h, n)) = false := by
    rw [beq_eq_false_iff_ne]
    intro z
    exact c ⟨congrArg Prod.fst z, congrArg Prod.snd z⟩
  rw [this] <;> rfl
theorem lookup_same {h n : Nat} {w : Wo} : [((h, n), w)].lookup (h, n) = some w := by rw [List.lookup_cons, beq_self_eq_true]
theorem pst_bind {L : Lg} {h n : Nat} {v : Val} : Pst L h n 1 (L.ev (.bind h n v)) := fun a s h1 h2 h3 => by
  show (L.wo ++ [((h, n), v.wo)]).lookup (a, s) = none
  rw [lookup_none_append h1]
  exact lookup_one fun z => h3 ⟨z.1, by omega, by omega⟩
theorem fra_bind {L : Lg} {h n : Nat} {v : Val} (f : FrA L) (hl : h < L.ow.length) : FrA (L.ev (.bind h n v)) := fun a s h1 => by
  have h1' : L.ow.length ≤ a := h1
  show (L.wo ++ [((h, n), v.wo)]).lookup (a, s) = none
  rw [lookup_none_append (f a s h1')]
  exact lookup_one fun z => by omega
theorem fra_act {L : Lg} {s y : Nat} (f : FrA L) : FrA (L.ev (.act s y)) := fun a s' h1 => f a s' (by
  have : (L.ow ++ [some s]).length ≤ a := h1
  simp at this
  omega)
theorem Fin.cast {l l' : Nat} {L L' : Lg} {wk : List Tk} {rs : List Wo} {res : Res} {M : MS} (h : Fin l L wk rs res M) (e1 : l = l') (e2 : L = L') : Fin l' L' wk rs res M := by rw [← e1, ← e2]; exact h
theorem Pre.ow {so : Nat → Option (Option Nat)} {L : Lg} {S : Nat} {e : E} {n : Nat} {r : Env} {h na : Nat} {o : Option Nat} (p : Pre so L S e n r h na o) (t : List Ev) : (L.evs t).ow.length = na + nact t := by rw [Lg.ow_evs, p.al]
theorem Pre.upl {so : Nat → Option (Option Nat)} {L : Lg} {S : Nat} {e : E} {n : Nat} {r : Env} {h na : Nat} {o : Option Nat} (p : Pre so L S e n r h na o) (t : List Ev) : (L.evs t).up.length = na + nact t := by rw [Lg.up_evs, p.ul]
/-- the second part of an expression -/
theorem Pre.snd {so : Nat → Option (Option Nat)} {L : Lg} {S : Nat} {e a b : E} {n n1 n2 : Nat} {r : Env} {h na left : Nat} {o : Option Nat} {t : List Ev} {res : Res} (p : Pre so L S e n r h na o) (q : PosR so S a n1 r h left t L res)
    (fb : FitsL so (own b o n2) n2) (sb : b.size ≤ S) (c1 : n ≤ n2) (c2 : n2 + b.ns ≤ n + e.ns) (c3 : n1 + a.ns ≤ n2) : Pre so (L.evs t) S b n2 r h (na + nact t) o :=
  ⟨p.ow t, p.upl t, (Lg.Le.evs L t).ow _ _ p.ho, p.env.mono (Lg.Le.evs L t) (by rw [Lg.ow_evs]; omega) c1, fb, sb, p.fsh.next q.pst (lt_of_get p.ho) c1 c2 c3, q.fra⟩
theorem Pre.fst {so : Nat → Option (Option Nat)} {L : Lg} {S : Nat} {e a : E} {n n1 : Nat} {r : Env} {h na : Nat} {o : Option Nat} (p : Pre so L S e n r h na o)
    (fa : FitsL so (own a o n1) n1) (sa : a.size ≤ S) (c1 : n ≤ n1) (c2 : n1 + a.ns ≤ n + e.ns) : Pre so L S a n1 r h na o :=
  ⟨p.al, p.ul, p.ho, p.env.mono .refl (Nat.le_refl _) c1, fa, sa, p.fsh.part c1 c2, p.fra⟩
theorem R.mach {so : Nat → Option (Option Nat)} (hso : ∀ s f, so s = some (some f) → f ≤ s) {S : Nat} {e n r h na left res t} (x : R e n r h na left res t) : ∀ (L : Lg) (o : Option Nat), Pre so L S e n r h na o → PosR so S e n r h left t L res := by
  induction x with
  | num =>
    intro L o p
    exact ⟨fun wk rs => ⟨1, _, by show 1 ≤ 3 * 1 + _; omega, .one .num, rfl⟩, fun v e => by cases e; rw [Val.Ok]; trivial, p.fra, .refl⟩
  | @name k n r h na left a s v g =>
    intro L o p
    obtain ⟨g1, g2, g3⟩ := p.env.get g
    have es : (r.sc k).getD 0 = s := by unfold Env.sc; rw [g] <;> rfl
    refine ⟨fun wk rs => ⟨1, _, by show 1 ≤ 3 * 1 + _; omega, ?_, rfl⟩, fun v' e => by cases e; exact g3.mono (Lg.Le.evs L _) (Nat.le_refl _), p.fra, .refl⟩
    show Steps so 1 ⟨left, L, wk ++ [.run (.name ((r.sc k).getD 0)) h], rs, none⟩ _
    rw [es]
    exact .one (.name g1 g2)
  | @fn k b n r h na left =>
    intro L o p
    refine ⟨fun wk rs => ⟨1, _, by show 1 ≤ 3 * (1 + b.size) + _; omega, .one .fn, rfl⟩, fun v e => ?_, p.fra, .refl⟩
    cases e
    have ft := p.fit
    simp only [own] at ft
    have hz := p.sz
    simp only [E.size] at hz
    rw [Val.Ok]
    exact ⟨ft.head, ft.tail, by omega, lt_of_get p.ho, p.env.mono (Lg.Le.evs L _) (Nat.le_refl _) (Nat.le_refl _)⟩
  | @ltS k a b n r h na left x t _ ih =>
    intro L o p
    have ft := p.fit
    simp only [own] at ft
    have hz := p.sz
    simp only [E.size] at hz
    have hn : (E.lt k a b).ns = a.ns + b.ns + 1 := by simp only [E.ns]; omega
    have q := ih L o (p.fst ft.tail.left (by omega) (by omega) (by omega))
    refine ⟨fun wk rs => ?_, fun v e => by (cases e), q.fra, q.pst.wide (by omega) (by omega)⟩
    obtain ⟨k1, M, hk, s1, f1⟩ := q.con (wk ++ [.bind n (sit b (r.sc.set k n) (n + 1 + a.ns)) h]) rs
    rw [List.append_assoc] at s1
    exact ⟨k1 + 1, M, by simp only [E.size]; omega, .cons .lt s1, f1⟩
  | @lt k a b n r h na left v t res u x y i1 i2 =>
    intro L o p
    have ft := p.fit
    simp only [own] at ft
    have hz := p.sz
    simp only [E.size] at hz
    have hn : (E.lt k a b).ns = a.ns + b.ns + 1 := by simp only [E.ns]; omega
    have hh := lt_of_get p.ho
    have q := i1 L o (p.fst ft.tail.left (by omega) (by omega) (by omega))
    have fn : (L.evs t).wo.lookup (h, n) = none := q.pst h n (p.fsh n (by omega) (by omega)) hh (fun z => by omega)
    have le1 : L.Le ((L.evs t).ev (.bind h n v)) := (Lg.Le.evs L t).trans (Lg.Le.ev _ _)
    have hl1 : L.ow.length ≤ (L.evs t).ow.length := by rw [Lg.ow_evs]; omega
    have hoL := (Lg.Le.evs L t).ow _ _ p.ho
    have pst1 : Pst L h n (1 + a.ns) ((L.evs t).ev (.bind h n v)) := Pst.trans q.pst pst_bind hl1 (by omega) (by omega) (by omega) (by omega)
    have q2 := i2 ((L.evs t).ev (.bind h n v)) o ⟨p.ow t, p.upl t, hoL, by
        rw [Env.Ok]
        refine ⟨by omega, .here ft.head hoL, ?_, (q.ok v rfl).mono (Lg.Le.ev _ _) (Nat.le_refl _), p.env.mono le1 hl1 (by omega)⟩
        show ((L.evs t).wo ++ [((h, n), v.wo)]).lookup (h, n) = some v.wo
        rw [lookup_none_append fn, lookup_same], ft.tail.right (by rw [own_length]), by omega, p.fsh.next pst1 hh (by omega) (by omega) (by omega), fra_bind q.fra (by omega)⟩
    have ee : L.evs (t ++ .bind h n v :: u) = ((L.evs t).ev (.bind h n v)).evs u := by rw [Lg.evs_append, Lg.evs_cons]
    have en : nact (t ++ .bind h n v :: u) = nact t + nact u := by rw [nact_append, nact_bind]
    refine ⟨fun wk rs => ?_, fun w e => by rw [ee]; exact q2.ok w e, by rw [ee]; exact q2.fra, by rw [ee]; exact Pst.trans pst1 q2.pst (by exact hl1) (by omega) (by omega) (by omega) (by omega)⟩
    obtain ⟨k1, M, hk, s1, rfl⟩ := q.con (wk ++ [.bind n (sit b (r.sc.set k n) (n + 1 + a.ns)) h]) rs
    obtain ⟨k2, M2, hk2, s2, f2⟩ := q2.con wk rs
    rw [List.append_assoc] at s1
    rw [Env.sc_cons] at s2
    refine ⟨1 + k1 + (1 + k2), M2, ?_, ((Steps.one .lt).trans s1).trans ((Steps.one (.bind fn)).trans s2), f2.cast (by rw [en]; omega) ee.symm⟩
    rw [en, Nat.mul_add]
    simp only [E.size]
    omega
  | @plusS1 a b n r h na left x t _ i1 =>
    intro L o p
    have ft := p.fit
    simp only [own] at ft
    have hz := p.sz
    simp only [E.size] at hz
    have hn : (E.plus a b).ns = a.ns + b.ns := by simp only [E.ns]
    have q := i1 L o (p.fst ft.left (by omega) (by omega) (by omega))
    refine ⟨fun wk rs => ?_, fun v e => by (cases e), q.fra, q.pst.wide (by omega) (by omega)⟩
    obtain ⟨k1, M, hk, s1, f1⟩ := q.con (wk ++ [.plus, .run (sit b r.sc (n + a.ns)) h]) rs
    rw [List.append_assoc] at s1
    exact ⟨k1 + 1, M, by simp only [E.size]; omega, .cons .plus0 s1, f1⟩
  | @plusS2 a b n r h na left v t x u _ _ i1 i2 =>
    intro L o p
    have ft := p.fit
    simp only [own] at ft
    have hz := p.sz
    simp only [E.size] at hz
    have hn : (E.plus a b).ns = a.ns + b.ns := by simp only [E.ns]
    have q := i1 L o (p.fst ft.left (by omega) (by omega) (by omega))
    have q2 := i2 (L.evs t) o (p.snd q (ft.right (by rw [own_length])) (by omega) (by omega) (by omega) (by omega))
    have hl1 : L.ow.length ≤ (L.evs t).ow.length := by rw [Lg.ow_evs]; omega
    have ee : L.evs (t ++ u) = (L.evs t).evs u := Lg.evs_append _ _ _
    have en : nact (t ++ u) = nact t + nact u := nact_append _ _
    have pst2 : Pst L h n (a.ns + b.ns) ((L.evs t).evs u) := Pst.trans q.pst q2.pst hl1 (by omega) (by omega) (by omega) (by omega)
    refine ⟨fun wk rs => ?_, fun v e => by (cases e), by rw [ee]; exact q2.fra, by rw [ee]; exact pst2.wide (by omega) (by omega)⟩
    obtain ⟨k1, M, hk, s1, rfl⟩ := q.con (wk ++ [.plus, .run (sit b r.sc (n + a.ns)) h]) rs
    rw [List.append_assoc] at s1
    obtain ⟨k2, M2, hk2, s2, f2⟩ := q2.con (wk ++ [.plus]) (rs ++ [v.wo])
    rw [List.append_assoc] at s2
    refine ⟨1 + k1 + k2, M2, ?_, ((Steps.one .plus0).trans s1).trans s2, f2.cast (by rw [en]; omega) ee.symm⟩
    rw [en, Nat.mul_add]
    simp only [E.size]
    omega
  | @plus a b n r h na left i t j u _ _ i1 i2 =>
    intro L o p
    have ft := p.fit
    simp only [own] at ft
    have hz := p.sz
    simp only [E.size] at hz
    have hn : (E.plus a b).ns = a.ns + b.ns := by simp only [E.ns]
    have q := i1 L o (p.fst ft.left (by omega) (by omega) (by omega))
    have q2 := i2 (L.evs t) o (p.snd q (ft.right (by rw [own_length])) (by omega) (by omega) (by omega) (by omega))
    have hl1 : L.ow.length ≤ (L.evs t).ow.length := by rw [Lg.ow_evs]; omega
    have ee : L.evs (t ++ u) = (L.evs t).evs u := Lg.evs_append _ _ _
    have en : nact (t ++ u) = nact t + nact u := nact_append _ _
    have pst2 : Pst L h n (a.ns + b.ns) ((L.evs t).evs u) := Pst.trans q.pst q2.pst hl1 (by omega) (by omega) (by omega) (by omega)
    refine ⟨fun wk rs => ?_, fun v e => by cases e; rw [Val.Ok]; trivial, by rw [ee]; exact q2.fra, by rw [ee]; exact pst2.wide (by omega) (by omega)⟩
    obtain ⟨k1, M, hk, s1, rfl⟩ := q.con (wk ++ [.plus, .run (sit b r.sc (n + a.ns)) h]) rs
    rw [List.append_assoc] at s1
    obtain ⟨k2, M2, hk2, s2, rfl⟩ := q2.con (wk ++ [.plus]) (rs ++ [(.int i)])
    rw [List.append_assoc] at s2
    rw [List.append_assoc] at s2
    have s3 : Step so ⟨left - nact t - nact u, (L.evs t).evs u, wk ++ [.plus], rs ++ [(.int i), (.int j)], none⟩ ⟨left - nact t - nact u, (L.evs t).evs u, wk, rs ++ [.int ((i + j) % 1000)], none⟩ := .plus
    refine ⟨1 + k1 + k2 + 1, _, ?_, (((Steps.one .plus0).trans s1).trans s2).trans (.one s3), ?_⟩
    · rw [en, Nat.mul_add]
      simp only [E.size]
      omega
    · rw [en, ee, Nat.sub_add_eq] <;> rfl
  | @plusF a b n r h na left v t w u _ _ f i1 i2 =>
    intro L o p
    have ft := p.fit
    simp only [own] at ft
    have hz := p.sz
    simp only [E.size] at hz
    have hn : (E.plus a b).ns = a.ns + b.ns := by simp only [E.ns]
    have q := i1 L o (p.fst ft.left (by omega) (by omega) (by omega))
    have q2 := i2 (L.evs t) o (p.snd q (ft.right (by rw [own_length])) (by omega) (by omega) (by omega) (by omega))
    have hl1 : L.ow.length ≤ (L.evs t).ow.length := by rw [Lg.ow_evs]; omega
    have ee : L.evs (t ++ u) = (L.evs t).evs u := Lg.evs_append _ _ _
    have en : nact (t ++ u) = nact t + nact u := nact_append _ _
    have pst2 : Pst L h n (a.ns + b.ns) ((L.evs t).evs u) := Pst.trans q.pst q2.pst hl1 (by omega) (by omega) (by omega) (by omega)
    refine ⟨fun wk rs => ?_, fun v e => by (cases e), by rw [ee]; exact q2.fra, by rw [ee]; exact pst2.wide (by omega) (by omega)⟩
    obtain ⟨k1, M, hk, s1, rfl⟩ := q.con (wk ++ [.plus, .run (sit b r.sc (n + a.ns)) h]) rs
    rw [List.append_assoc] at s1
    obtain ⟨k2, M2, hk2, s2, rfl⟩ := q2.con (wk ++ [.plus]) (rs ++ [v.wo])
    rw [List.append_assoc] at s2
    rw [List.append_assoc] at s2
    have s3 : Step so ⟨left - nact t - nact u, (L.evs t).evs u, wk ++ [.plus], rs ++ [v.wo, w.wo], none⟩ ⟨left - nact t - nact u, (L.evs t).evs u, wk, rs, some .number⟩ := .plusF (by
        rcases f with ⟨_, _, _, _, _, rfl⟩ | ⟨_, _, _, _, _, rfl⟩
        · exact .inl trivial
        · exact .inr trivial)
    refine ⟨1 + k1 + k2 + 1, _, ?_, (((Steps.one .plus0).trans s1).trans s2).trans (.one s3), ?_⟩
    · rw [en, Nat.mul_add]
      simp only [E.size]
      omega
    · exact ⟨by rw [en, Nat.sub_add_eq], ee.symm, rfl⟩
  | @iteS c a b n r h na left x t _ i1 =>
    intro L o p
    have ft := p.fit
    simp only [own] at ft
    have hz := p.sz
    simp only [E.size] at hz
    have hn : (E.ite c a b).ns = c.ns + (a.ns + b.ns) := by simp only [E.ns]
    have q := i1 L o (p.fst ft.left (by omega) (by omega) (by omega))
    refine ⟨fun wk rs => ?_, fun v e => by (cases e), q.fra, q.pst.wide (by omega) (by omega)⟩
    obtain ⟨k1, M, hk, s1, f1⟩ := q.con (wk ++ [.ite (sit a r.sc (n + c.ns)) (sit b r.sc (n + c.ns + a.ns)) h]) rs
    rw [List.append_assoc] at s1
    exact ⟨k1 + 1, M, by simp only [E.size]; omega, .cons .ite0 s1, f1⟩
  | @iteF c a b n r h na left k d s q z t _ i1 =>
    intro L o p
    have ft := p.fit
    simp only [own] at ft
    have hz := p.sz
    simp only [E.size] at hz
    have hn : (E.ite c a b).ns = c.ns + (a.ns + b.ns) := by simp only [E.ns]
    have q0 := i1 L o (p.fst ft.left (by omega) (by omega) (by omega))
    refine ⟨fun wk rs => ?_, fun v e => by (cases e), q0.fra, q0.pst.wide (by omega) (by omega)⟩
    obtain ⟨k1, M, hk, s1, rfl⟩ := q0.con (wk ++ [.ite (sit a r.sc (n + c.ns)) (sit b r.sc (n + c.ns + a.ns)) h]) rs
    rw [List.append_assoc] at s1
    exact ⟨1 + k1 + 1, _, by simp only [E.size]; omega, ((Steps.one .ite0).trans s1).trans (.one (.iteF trivial)), ⟨rfl, rfl, rfl⟩⟩
  | @iteT c a b n r h na left i t res u _ hi _ i1 i2 =>
    intro L o p
    have ft := p.fit
    simp only [own] at ft
    have hz := p.sz
    simp only [E.size] at hz
    have hn : (E.ite c a b).ns = c.ns + (a.ns + b.ns) := by simp only [E.ns]
    have q := i1 L o (p.fst ft.left (by omega) (by omega) (by omega))
    have q2 := i2 (L.evs t) o (p.snd q ((ft.right (k := n + c.ns) (by rw [own_length])).left) (by omega) (by omega) (by omega) (by omega))
    have hl1 : L.ow.length ≤ (L.evs t).ow.length := by rw [Lg.ow_evs]; omega
    have ee : L.evs (t ++ u) = (L.evs t).evs u := Lg.evs_append _ _ _
    have en : nact (t ++ u) = nact t + nact u := nact_append _ _
    refine ⟨fun wk rs => ?_, fun w e => by rw [ee]; exact q2.ok w e, by rw [ee]; exact q2.fra, by rw [ee]; exact Pst.trans q.pst q2.pst hl1 (by omega) (by omega) (by omega) (by omega)⟩
    obtain ⟨k1, M, hk, s1, rfl⟩ := q.con (wk ++ [.ite (sit a r.sc (n + c.ns)) (sit b r.sc (n + c.ns + a.ns)) h]) rs
    rw [List.append_assoc] at s1
    obtain ⟨k2, M2, hk2, s2, f2⟩ := q2.con wk rs
    refine ⟨1 + k1 + (1 + k2), M2, ?_, ((Steps.one .ite0).trans s1).trans ((Steps.one (.iteT hi)).trans s2), f2.cast (by rw [en]; omega) ee.symm⟩
    rw [en, Nat.mul_add]
    simp only [E.size]
    omega
  | @iteE c a b n r h na left t res u _ _ i1 i2 =>
    intro L o p
    have ft := p.fit
    simp only [own] at ft
    have hz := p.sz
    simp only [E.size] at hz
    have hn : (E.ite c a b).ns = c.ns + (a.ns + b.ns) := by simp only [E.ns]
    have q := i1 L o (p.fst ft.left (by omega) (by omega) (by omega))
    have q2 := i2 (L.evs t) o (p.snd q ((ft.right (k := n + c.ns) (by rw [own_length])).right (by rw [own_length])) (by omega) (by omega) (by omega) (by omega))
    have hl1 : L.ow.length ≤ (L.evs t).ow.length := by rw [Lg.ow_evs]; omega
    have ee : L.evs (t ++ u) = (L.evs t).evs u := Lg.evs_append _ _ _
    have en : nact (t ++ u) = nact t + nact u := nact_append _ _
    refine ⟨fun wk rs => ?_, fun w e => by rw [ee]; exact q2.ok w e, by rw [ee]; exact q2.fra, by rw [ee]; exact Pst.trans q.pst q2.pst hl1 (by omega) (by omega) (by omega) (by omega)⟩
    obtain ⟨k1, M, hk, s1, rfl⟩ := q.con (wk ++ [.ite (sit a r.sc (n + c.ns)) (sit b r.sc (n + c.ns + a.ns)) h]) rs
    rw [List.append_assoc] at s1
    obtain ⟨k2, M2, hk2, s2, f2⟩ := q2.con wk rs
    refine ⟨1 + k1 + (1 + k2), M2, ?_, ((Steps.one .ite0).trans s1).trans ((Steps.one .iteE).trans s2), f2.cast (by rw [en]; omega) ee.symm⟩
    rw [en, Nat.mul_add]
    simp only [E.size]
    omega
  | @callS1 a b n r h na left x t _ i1 =>
    intro L o p
    have ft := p.fit
    simp only [own] at ft
    have hz := p.sz
    simp only [E.size] at hz
    have hn : (E.call a b).ns = a.ns + b.ns := by simp only [E.ns]
    have q := i1 L o (p.fst ft.left (by omega) (by omega) (by omega))
    refine ⟨fun wk rs => ?_, fun v e => by (cases e), q.fra, q.pst.wide (by omega) (by omega)⟩
    obtain ⟨k1, M, hk, s1, f1⟩ := q.con (wk ++ [.call, .run (sit b r.sc (n + a.ns)) h]) rs
    rw [List.append_assoc] at s1
    exact ⟨k1 + 1, M, by simp only [E.size]; omega, .cons .call0 s1, f1⟩
  | @callS2 a b n r h na left v t x u _ _ i1 i2 =>
    intro L o p
    have ft := p.fit
    simp only [own] at ft
    have hz := p.sz
    simp only [E.size] at hz
    have hn : (E.call a b).ns = a.ns + b.ns := by simp only [E.ns]
    have q := i1 L o (p.fst ft.left (by omega) (by omega) (by omega))
    have q2 := i2 (L.evs t) o (p.snd q (ft.right (by rw [own_length])) (by omega) (by omega) (by omega) (by omega))
    have hl1 : L.ow.length ≤ (L.evs t).ow.length := by rw [Lg.ow_evs]; omega
    have ee : L.evs (t ++ u) = (L.evs t).evs u := Lg.evs_append _ _ _
    have en : nact (t ++ u) = nact t + nact u := nact_append _ _
    have pst2 : Pst L h n (a.ns + b.ns) ((L.evs t).evs u) := Pst.trans q.pst q2.pst hl1 (by omega) (by omega) (by omega) (by omega)
    refine ⟨fun wk rs => ?_, fun v e => by (cases e), by rw [ee]; exact q2.fra, by rw [ee]; exact pst2.wide (by omega) (by omega)⟩
    obtain ⟨k1, M, hk, s1, rfl⟩ := q.con (wk ++ [.call, .run (sit b r.sc (n + a.ns)) h]) rs
    rw [List.append_assoc] at s1
    obtain ⟨k2, M2, hk2, s2, f2⟩ := q2.con (wk ++ [.call]) (rs ++ [v.wo])
    rw [List.append_assoc] at s2
    refine ⟨1 + k1 + k2, M2, ?_, ((Steps.one .call0).trans s1).trans s2, f2.cast (by rw [en]; omega) ee.symm⟩
    rw [en, Nat.mul_add]
    simp only [E.size]
    omega
  | @callF a b n r h na left i t w u _ _ i1 i2 =>
    intro L o p
    have ft := p.fit
    simp only [own] at ft
    have hz := p.sz
    simp only [E.size] at hz
    have hn : (E.call a b).ns = a.ns + b.ns := by simp only [E.ns]
    have q := i1 L o (p.fst ft.left (by omega) (by omega) (by omega))
    have q2 := i2 (L.evs t) o (p.snd q (ft.right (by rw [own_length])) (by omega) (by omega) (by omega) (by omega))
    have hl1 : L.ow.length ≤ (L.evs t).ow.length := by rw [Lg.ow_evs]; omega
    have ee : L.evs (t ++ u) = (L.evs t).evs u := Lg.evs_append _ _ _
    have en : nact (t ++ u) = nact t + nact u := nact_append _ _
    have pst2 : Pst L h n (a.ns + b.ns) ((L.evs t).evs u) := Pst.trans q.pst q2.pst hl1 (by omega) (by omega) (by omega) (by omega)
    refine ⟨fun wk rs => ?_, fun v e => by (cases e), by rw [ee]; exact q2.fra, by rw [ee]; exact pst2.wide (by omega) (by omega)⟩
    obtain ⟨k1, M, hk, s1, rfl⟩ := q.con (wk ++ [.call, .run (sit b r.sc (n + a.ns)) h]) rs
    rw [List.append_assoc] at s1
    obtain ⟨k2, M2, hk2, s2, rfl⟩ := q2.con (wk ++ [.call]) (rs ++ [(.int i)])
    rw [List.append_assoc] at s2
    rw [List.append_assoc] at s2
    have s3 : Step so ⟨left - nact t - nact u, (L.evs t).evs u, wk ++ [.call], rs ++ [(.int i), w.wo], none⟩ ⟨left - nact t - nact u, (L.evs t).evs u, wk, rs, some .function⟩ := .callF
    refine ⟨1 + k1 + k2 + 1, _, ?_, (((Steps.one .call0).trans s1).trans s2).trans (.one s3), ?_⟩
    · rw [en, Nat.mul_add]
      simp only [E.size]
      omega
    · exact ⟨by rw [en, Nat.sub_add_eq], ee.symm, rfl⟩
  | @callL a b n r h na left k c s q z t w u _ _ hl i1 i2 =>
    intro L o p
    have ft := p.fit
    simp only [own] at ft
    have hz := p.sz
    simp only [E.size] at hz
    have hn : (E.call a b).ns = a.ns + b.ns := by simp only [E.ns]
    have q1 := i1 L o (p.fst ft.left (by omega) (by omega) (by omega))
    have q2 := i2 (L.evs t) o (p.snd q1 (ft.right (by rw [own_length])) (by omega) (by omega) (by omega) (by omega))
    have hl1 : L.ow.length ≤ (L.evs t).ow.length := by rw [Lg.ow_evs]; omega
    have ee : L.evs (t ++ u) = (L.evs t).evs u := Lg.evs_append _ _ _
    have en : nact (t ++ u) = nact t + nact u := nact_append _ _
    have pst2 : Pst L h n (a.ns + b.ns) ((L.evs t).evs u) := Pst.trans q1.pst q2.pst hl1 (by omega) (by omega) (by omega) (by omega)
    refine ⟨fun wk rs => ?_, fun v e => by (cases e), by rw [ee]; exact q2.fra, by rw [ee]; exact pst2.wide (by omega) (by omega)⟩
    obtain ⟨k1, M, hk, s1, rfl⟩ := q1.con (wk ++ [.call, .run (sit b r.sc (n + a.ns)) h]) rs
    rw [List.append_assoc] at s1
    obtain ⟨k2, M2, hk2, s2, rfl⟩ := q2.con (wk ++ [.call]) (rs ++ [(Val.clo k c s q z).wo])
    rw [List.append_assoc] at s2
    rw [List.append_assoc] at s2
    have s3 : Step so ⟨left - nact t - nact u, (L.evs t).evs u, wk ++ [.call], rs ++ [(Val.clo k c s q z).wo, w.wo], none⟩ ⟨left - nact t - nact u, (L.evs t).evs u, wk, rs, some .still⟩ := by rw [hl]; exact .callL
    refine ⟨1 + k1 + k2 + 1, _, ?_, (((Steps.one .call0).trans s1).trans s2).trans (.one s3), ?_⟩
    · rw [en, Nat.mul_add]
      simp only [E.size]
      omega
    · exact ⟨by rw [en, Nat.sub_add_eq], ee.symm, rfl⟩
  | @call a b n r h na left k c s q z t w u res p' _ _ hl _ i1 i2 i3 =>
    intro L o p
    have ft := p.fit
    simp only [own] at ft
    have hz := p.sz
    simp only [E.size] at hz
    have hn : (E.call a b).ns = a.ns + b.ns := by simp only [E.ns]
    have q1 := i1 L o (p.fst ft.left (by omega) (by omega) (by omega))
    have q2 := i2 (L.evs t) o (p.snd q1 (ft.right (by rw [own_length])) (by omega) (by omega) (by omega) (by omega))
    have hl1 : L.ow.length ≤ (L.evs t).ow.length := by rw [Lg.ow_evs]; omega
    have ee : L.evs (t ++ u) = (L.evs t).evs u := Lg.evs_append _ _ _
    have en : nact (t ++ u) = nact t + nact u := nact_append _ _
    have pst2 : Pst L h n (a.ns + b.ns) ((L.evs t).evs u) := Pst.trans q1.pst q2.pst hl1 (by omega) (by omega) (by omega) (by omega)
    have okc := q1.ok _ rfl
    have okw := q2.ok _ rfl
    have le2 : (L.evs t).Le ((L.evs t).evs u) := Lg.Le.evs _ _
    have hl2 : ((L.evs t).evs u).ow.length = na + nact t + nact u := by rw [← ee, p.ow, en]; omega
    have hu2 : ((L.evs t).evs u).up.length = na + nact t + nact u := by rw [← ee, p.upl, en]; omega
    have okc2 := okc.mono le2 (by rw [hl2, p.ow]; omega)
    rw [Val.Ok] at okc2
    obtain ⟨o1, o2, o3, o4, o5⟩ := okc2
    have lA : ((L.evs t).evs u).Le (((L.evs t).evs u).ev (.act s z)) := Lg.Le.ev _ _
    have lB : (((L.evs t).evs u).ev (.act s z)).Le ((((L.evs t).evs u).ev (.act s z)).ev (.bind (na + nact t + nact u) s w)) := Lg.Le.ev _ _
    have hlB : ((((L.evs t).evs u).ev (.act s z)).ev (.bind (na + nact t + nact u) s w)).ow.length = na + nact t + nact u + 1 := by
      show (((L.evs t).evs u).ow ++ [some s]).length = _
      rw [List.length_append, hl2] <;> rfl
    have huB : ((((L.evs t).evs u).ev (.act s z)).ev (.bind (na + nact t + nact u) s w)).up.length = na + nact t + nact u + 1 := by
      show (((L.evs t).evs u).up ++ [some z]).length = _
      rw [List.length_append, hu2] <;> rfl
    have hoB : ((((L.evs t).evs u).ev (.act s z)).ev (.bind (na + nact t + nact u) s w)).ow[na + nact t + nact u]? = some (some s) := by
      show (((L.evs t).evs u).ow ++ [some s])[na + nact t + nact u]? = _
      rw [List.getElem?_append_right (by omega), hl2, Nat.sub_self] <;> rfl
    have hpB : ((((L.evs t).evs u).ev (.act s z)).ev (.bind (na + nact t + nact u) s w)).up[na + nact t + nact u]? = some (some z) := by
      show (((L.evs t).evs u).up ++ [some z])[na + nact t + nact u]? = _
      rw [List.getElem?_append_right (by omega), hu2, Nat.sub_self] <;> rfl
    have fw : ((L.evs t).evs u).wo.lookup (na + nact t + nact u, s) = none := q2.fra _ _ (by omega)
    have gw : ((((L.evs t).evs u).ev (.act s z)).ev (.bind (na + nact t + nact u) s w)).wo.lookup (na + nact t + nact u, s) = some w.wo := by
      show (((L.evs t).evs u).wo ++ [((na + nact t + nact u, s), w.wo)]).lookup _ = _
      rw [lookup_none_append fw, lookup_same]
    have frB : FrA ((((L.evs t).evs u).ev (.act s z)).ev (.bind (na + nact t + nact u) s w)) := fra_bind (fra_act q2.fra) (by
      show na + nact t + nact u < (((L.evs t).evs u).ow ++ [some s]).length
      rw [List.length_append, hl2]
      exact Nat.lt_succ_self _)
    have pB : Pre so ((((L.evs t).evs u).ev (.act s z)).ev (.bind (na + nact t + nact u) s w)) S c (s + 1) (.cons k (na + nact t + nact u) s w q) (na + nact t + nact u) (na + nact t + nact u + 1) (some s) := ⟨hlB, huB, hoB, by
        rw [Env.Ok]
        exact ⟨Nat.lt_succ_self _, .here o1 hoB, gw, okw.mono (lA.trans lB) (by rw [hl2, hlB]; omega), Env.Ok.deep hso hoB hpB (o5.mono (lA.trans lB) (by rw [hl2, hlB]; omega) (Nat.le_refl _))⟩, o2, o3, fun s' h1 h2 => by
        show (((L.evs t).evs u).wo ++ [((na + nact t + nact u, s), w.wo)]).lookup _ = _
        rw [lookup_none_append (q2.fra _ _ (by omega))]
        exact lookup_one fun z => by omega, frB⟩
    have q3 := i3 _ _ pB
    have ee3 : L.evs (t ++ u ++ .act s z :: .bind (na + nact t + nact u) s w :: p') = ((((L.evs t).evs u).ev (.act s z)).ev (.bind (na + nact t + nact u) s w)).evs p' := by rw [Lg.evs_append, ee, Lg.evs_cons, Lg.evs_cons]
    have en3 : nact (t ++ u ++ .act s z :: .bind (na + nact t + nact u) s w :: p') = nact t + nact u + (nact p' + 1) := by rw [nact_append, en, nact_act, nact_bind]
    refine ⟨fun wk rs => ?_, fun v e => by rw [ee3]; exact q3.ok v e, by rw [ee3]; exact q3.fra, ?_⟩
    · obtain ⟨k1, M, hk, s1, rfl⟩ := q1.con (wk ++ [.call, .run (sit b r.sc (n + a.ns)) h]) rs
      rw [List.append_assoc] at s1
      obtain ⟨k2, M2, hk2, s2, rfl⟩ := q2.con (wk ++ [.call]) (rs ++ [(Val.clo k c s q z).wo])
      rw [List.append_assoc] at s2
      rw [List.append_assoc] at s2
      obtain ⟨k3, M3, hk3, s3, f3⟩ := q3.con wk rs
      rw [Env.sc_cons] at s3
      obtain ⟨l, el⟩ : ∃ l, left - nact t - nact u = l + 1 := ⟨left - nact t - nact u - 1, by omega⟩
      have sc : Step so ⟨left - nact t - nact u, (L.evs t).evs u, wk ++ [.call], rs ++ [(Val.clo k c s q z).wo, w.wo], none⟩
          ⟨left - nact t - nact u - 1, (((L.evs t).evs u).ev (.act s z)).ev (.bind (na + nact t + nact u) s w), wk ++ [.run (sit c (q.sc.set k s) (s + 1)) (na + nact t + nact u)], rs, none⟩ := by
        have := Step.call (so := so) (l := l) (L := (L.evs t).evs u) (wk := wk) (rs := rs) (s := s) (b := sit c (q.sc.set k s) (s + 1)) (u := z) (w := w.wo) (by rw [hl2]; exact fw)
        rw [hl2] at this
        rw [el]
        exact this
      refine ⟨1 + k1 + k2 + (1 + k3), M3, ?_, (((Steps.one .call0).trans s1).trans s2).trans ((Steps.one sc).trans s3), f3.cast (by rw [en3]; omega) ee3.symm⟩
      rw [en3, Nat.mul_add, Nat.mul_add, Nat.mul_add, Nat.mul_one]
      simp only [E.size]
      omega
    · rw [ee3]
      intro a' s' h1 h2 h3
      have e1 := pst2 a' s' h1 h2 (fun z => h3 ⟨z.1, z.2.1, by omega⟩)
      have hal := p.al
      refine q3.pst a' s' ?_ (by rw [hlB]; omega) (fun z => by omega)
      show (((L.evs t).evs u).wo ++ [((na + nact t + nact u, s), w.wo)]).lookup _ = _
      rw [lookup_none_append e1]
      exact lookup_one fun z => by omega
end EW

namespace EW
/-- a step by its task, which is off the list already -/
inductive St1 (so : Nat → Option (Option Nat)) : Tk → Nat → Lg → List Tk → List Wo → MS → Prop where
  | num {l L wk rs m h} : St1 so (.run (.num m) h) l L wk rs ⟨l, L, wk, rs ++ [.int m], none⟩
  | name {l L wk rs s h a w} (r : Reach so L h s a) (g : L.wo.lookup (a, s) = some w) : St1 so (.run (.name s) h) l L wk rs ⟨l, { L with lk := L.lk ++ [(h, a, s)] }, wk, rs ++ [w], none⟩
  | fn {l L wk rs s b h} : St1 so (.run (.fn s b) h) l L wk rs ⟨l, { L with md := L.md ++ [s] }, wk, rs ++ [.clo s b h], none⟩
  | lt {l L wk rs s a b h} : St1 so (.run (.lt s a b) h) l L wk rs ⟨l, L, wk ++ [.bind s b h, .run a h], rs, none⟩
  | ite0 {l L wk rs c a b h} : St1 so (.run (.ite c a b) h) l L wk rs ⟨l, L, wk ++ [.ite a b h, .run c h], rs, none⟩
  | plus0 {l L wk rs a b h} : St1 so (.run (.plus a b) h) l L wk rs ⟨l, L, wk ++ [.plus, .run b h, .run a h], rs, none⟩
  | call0 {l L wk rs a b h} : St1 so (.run (.call a b) h) l L wk rs ⟨l, L, wk ++ [.call, .run b h, .run a h], rs, none⟩
  | bind {l L wk rs s b h w} (f : L.wo.lookup (h, s) = none) : St1 so (.bind s b h) l L wk (rs ++ [w]) ⟨l, { L with wo := L.wo ++ [((h, s), w)] }, wk ++ [.run b h], rs, none⟩
  | plus {l L wk rs i j} : St1 so .plus l L wk (rs ++ [.int i, .int j]) ⟨l, L, wk, rs ++ [.int ((i + j) % 1000)], none⟩
  | plusF {l L wk rs v w} (f : v.isClo ∨ w.isClo) : St1 so .plus l L wk (rs ++ [v, w]) ⟨l, L, wk, rs, some .number⟩
  | iteT {l L wk rs a b h i} (f : i ≠ 0) : St1 so (.ite a b h) l L wk (rs ++ [.int i]) ⟨l, L, wk ++ [.run a h], rs, none⟩
  | iteE {l L wk rs a b h} : St1 so (.ite a b h) l L wk (rs ++ [.int 0]) ⟨l, L, wk ++ [.run b h], rs, none⟩
  | iteF {l L wk rs a b h w} (f : w.isClo) : St1 so (.ite a b h) l L wk (rs ++ [w]) ⟨l, L, wk, rs, some .number⟩
  | callF {l L wk rs i w} : St1 so .call l L wk (rs ++ [.int i, w]) ⟨l, L, wk, rs, some .function⟩
  | callL {L wk rs s b u w} : St1 so .call 0 L wk (rs ++ [.clo s b u, w]) ⟨0, L, wk, rs, some .still⟩
  | call {l L wk rs s b u w} (f : L.wo.lookup (L.ow.length, s) = none) : St1 so .call (l + 1) L wk (rs ++ [.clo s b u, w])
      ⟨l, { L with ow := L.ow ++ [some s], up := L.up ++ [some u], wo := L.wo ++ [((L.ow.length, s), w)] }, wk ++ [.run b L.ow.length], rs, none⟩
theorem Step.st1 {so : Nat → Option (Option Nat)} {M N : MS} (x : Step so M N) : ∃ tk l L wk rs, M = ⟨l, L, wk ++ [tk], rs, none⟩ ∧ St1 so tk l L wk rs N := by
  cases x with
  | num => exact ⟨_, _, _, _, _, rfl, .num⟩
  | name r g => exact ⟨_, _, _, _, _, rfl, .name r g⟩
  | fn => exact ⟨_, _, _, _, _, rfl, .fn⟩
  | lt => exact ⟨_, _, _, _, _, rfl, .lt⟩
  | ite0 => exact ⟨_, _, _, _, _, rfl, .ite0⟩
  | plus0 => exact ⟨_, _, _, _, _, rfl, .plus0⟩
  | call0 => exact ⟨_, _, _, _, _, rfl, .call0⟩
  | bind f => exact ⟨_, _, _, _, _, rfl, .bind f⟩
  | plus => exact ⟨_, _, _, _, _, rfl, .plus⟩
  | plusF f => exact ⟨_, _, _, _, _, rfl, .plusF f⟩
  | iteT f => exact ⟨_, _, _, _, _, rfl, .iteT f⟩
  | iteE => exact ⟨_, _, _, _, _, rfl, .iteE⟩
  | iteF f => exact ⟨_, _, _, _, _, rfl, .iteF f⟩
  | callF => exact ⟨_, _, _, _, _, rfl, .callF⟩
  | callL => exact ⟨_, _, _, _, _, rfl, .callL⟩
  | call f => exact ⟨_, _, _, _, _, rfl, .call f⟩
/-- how great the lists are -/
def MS.big (M : MS) (n : Nat) : Prop := M.wk.length ≤ n ∧ M.rs.length ≤ n ∧ M.lg.ow.length ≤ n ∧ M.lg.up.length ≤ n ∧ M.lg.wo.length ≤ n ∧ M.lg.lk.length ≤ n ∧ M.lg.md.length ≤ n
theorem Step.big {so : Nat → Option (Option Nat)} {M N : MS} (x : Step so M N) {n : Nat} (h : M.big n) : N.big (n + 3) := by
  unfold MS.big at h ⊢
  cases x <;> simp at h ⊢ <;> omega
/-! ### the sites' funs of a program -/
theorem own_le : ∀ (e : E) (o : Option Nat) (n : Nat), (∀ f, o = some f → f ≤ n) → ∀ (i f : Nat), (own e o n)[i]? = some (some f) → f ≤ n + i
  | .num _, _, _, _, i, f, h => by simp [own] at h
  | .name _, _, _, _, i, f, h => by simp [own] at h
  | .plus a b, o, n, ho, i, f, h => by
    simp only [own] at h
    rw [List.getElem?_append] at h
    split at h
    · exact own_le a o n ho i f h
    · have := own_le b o (n + a.ns) (fun g e => by have := ho g e; omega) _ f h
      rw [own_length] at *; omega
  | .lt _ a b, o, n, ho, i, f, h => by
    simp only [own] at h
    cases i with
    | zero => exact ho f (Option.some.inj h)
    | succ i =>
      rw [List.getElem?_cons_succ, List.getElem?_append] at h
      split at h
      · have := own_le a o (n + 1) (fun g e => by have := ho g e; omega) i f h; omega
      · have := own_le b o (n + 1 + a.ns) (fun g e => by have := ho g e; omega) _ f h
        rw [own_length] at *; omega
  | .fn _ b, o, n, ho, i, f, h => by
    simp only [own] at h
    cases i with
    | zero => have := Option.some.inj (Option.some.inj h); omega
    | succ i =>
      rw [List.getElem?_cons_succ] at h
      have := own_le b (some n) (n + 1) (fun g e => by have := Option.some.inj e; omega) i f h
      omega
  | .call a b, o, n, ho, i, f, h => by
    simp only [own] at h
    rw [List.getElem?_append] at h
    split at h
    · exact own_le a o n ho i f h
    · have := own_le b o (n + a.ns) (fun g e => by have := ho g e; omega) _ f h
      rw [own_length] at *; omega
  | .ite c a b, o, n, ho, i, f, h => by
    simp only [own] at h
    rw [List.getElem?_append] at h
    split at h
    · exact own_le c o n ho i f h
    · rw [List.getElem?_append] at h
      split at h
      · have := own_le a o (n + c.ns) (fun g e => by have := ho g e; omega) _ f h
        rw [own_length] at *; omega
      · have := own_le b o (n + c.ns + a.ns) (fun g e => by have := ho g e; omega) _ f h
        rw [own_length] at *
        rw [own_length] at *; omega
def so0 (e : E) (s : Nat) : Option (Option Nat) := (own e none 0)[s]?
theorem so0_le (e : E) (s f : Nat) (h : so0 e s = some (some f)) : f ≤ s := by
  have := own_le e none 0 (fun _ z => nomatch z) s f h
  omega
theorem so0_fits (e : E) : FitsL (so0 e) (own e none 0) 0 := fun i x h => by unfold so0; rw [Nat.zero_add, h]
def Lg0 : Lg := ⟨[none], [none], [], [], []⟩
theorem Run.mach {e : E} {most : Nat} {res : Res} {t : List Ev} (x : Run e most res t) : ∃ k M, k ≤ 3 * e.size + 3 * e.size * nact t ∧ Steps (so0 e) k ⟨most, Lg0, [.run (sit e (fun _ => none) 0) 0], [], none⟩ M ∧ Fin (most - nact t) (Lg0.evs t) [] [] res M := by
  have p := R.mach (so0_le e) (S := e.size) x Lg0 none ⟨rfl, rfl, rfl, by rw [Env.Ok]; trivial, so0_fits e, Nat.le_refl _, fun _ _ _ => rfl, fun _ _ _ => rfl⟩
  exact p.con [] []
end EW

namespace EW
/-- every look finds its binding going up -/
def LkOk (so : Nat → Option (Option Nat)) (L : Lg) : Prop := ∀ x ∈ L.lk, Reach so L x.1 x.2.2 x.2.1
theorem LkOk.le {so : Nat → Option (Option Nat)} {L L' : Lg} (h : LkOk so L) (x : L.Le L') (e : L'.lk = L.lk) : LkOk so L' := fun y hy => (h y (by rw [← e]; exact hy)).mono x
theorem Lg.Le.same {L L' : Lg} (h1 : L'.ow = L.ow) (h2 : L'.up = L.up) (h3 : L'.wo = L.wo) : L.Le L' := ⟨fun i o h => by rw [h1]; exact h, fun i o h => by rw [h2]; exact h, fun k w h => by rw [h3]; exact h⟩
theorem Step.lkOk {so : Nat → Option (Option Nat)} {M N : MS} (x : Step so M N) (h : LkOk so M.lg) : LkOk so N.lg := by
  cases x with
  | name r g =>
    intro y hy
    rcases List.mem_append.mp hy with z | z
    · refine Reach.mono ?_ (h y z)
      exact Lg.Le.same rfl rfl rfl
    · rw [List.mem_singleton.mp z]
      refine Reach.mono ?_ r
      exact Lg.Le.same rfl rfl rfl
  | fn => exact h.le ⟨fun _ _ h => h, fun _ _ h => h, fun _ _ h => h⟩ rfl
  | bind f => exact h.le ⟨fun _ _ h => h, fun _ _ h => h, fun _ _ h => lookup_some_append h⟩ rfl
  | call f => exact h.le ⟨fun i o h => by show (_ ++ [_])[i]? = some o; rw [List.getElem?_append_left (List.getElem?_eq_some_iff.mp h).1]; exact h, fun i o h => by show (_ ++ [_])[i]? = some o; rw [List.getElem?_append_left (List.getElem?_eq_some_iff.mp h).1]; exact h, fun _ _ h => lookup_some_append h⟩ rfl
  | _ => exact h
theorem Steps.lkOk {so : Nat → Option (Option Nat)} {k : Nat} {M N : MS} (x : Steps so k M N) (h : LkOk so M.lg) : LkOk so N.lg := by
  induction x with
  | nil => exact h
  | cons s _ ih => exact ih (s.lkOk h)
theorem Fin.lg {l : Nat} {L : Lg} {wk : List Tk} {rs : List Wo} {res : Res} {M : MS} (h : Fin l L wk rs res M) : M.lg = L := by
  cases res with
  | val v => rw [show M = ⟨l, L, wk, rs ++ [v.wo], none⟩ from h]
  | out o => exact h.2.1
theorem Run.lkOk {e : E} {most : Nat} {res : Res} {t : List Ev} (x : Run e most res t) : LkOk (so0 e) (Lg0.evs t) := by
  obtain ⟨k, M, _, st, fi⟩ := x.mach
  rw [← fi.lg]
  exact st.lkOk fun _ z => nomatch z
theorem Steps.big {so : Nat → Option (Option Nat)} {k : Nat} {M N : MS} (x : Steps so k M N) : ∀ {n : Nat}, M.big n → N.big (n + 3 * k) := by
  induction x with
  | nil => intro n h; exact h
  | cons s _ ih =>
    intro n h
    have := ih (s.big h)
    rw [Nat.mul_add, Nat.add_comm (3 * _), ← Nat.add_assoc]
    exact this
/-- a run's log is no great one -/
theorem Run.small {e : E} {most : Nat} {res : Res} {t : List Ev} (x : Run e most res t) (hz : e.size ≤ 60) (hm : most ≤ 60) : (Lg0.evs t).lk.length ≤ 40000 ∧ (Lg0.evs t).ow.length ≤ 40000 ∧ (Lg0.evs t).wo.length ≤ 40000 ∧ (Lg0.evs t).md.length ≤ 40000 := by
  obtain ⟨k, M, hk, st, fi⟩ := x.mach
  have hle := x.le
  have h1 : 3 * e.size * nact t ≤ 180 * 60 := Nat.mul_le_mul (by omega) (by omega)
  have hb := st.big (n := 1) ⟨Nat.le_refl _, Nat.zero_le _, Nat.le_refl _, Nat.le_refl _, Nat.zero_le _, Nat.zero_le _, Nat.zero_le _⟩
  rw [← fi.lg]
  obtain ⟨_, _, b1, _, b2, b3, b4⟩ := hb
  omega
end EW

namespace EW
/-! ### a run within a greater one: sites by d greater, activations by ψ, names ρ around -/
mutual
def Val.mv (d : Nat) (ψ : Nat → Nat) (ρ : Env) : Val → Val
  | .int n => .int n
  | .clo k b s r y => .clo k b (s + d) (Env.mv d ψ ρ r) (ψ y)
def Env.mv (d : Nat) (ψ : Nat → Nat) (ρ : Env) : Env → Env
  | .nil => ρ
  | .cons k a s v r => .cons k (ψ a) (s + d) (Val.mv d ψ ρ v) (Env.mv d ψ ρ r)
end
def Ev.mv (d : Nat) (ψ : Nat → Nat) (ρ : Env) : Ev → Ev
  | .act s y => .act (s + d) (ψ y)
  | .bind a s v => .bind (ψ a) (s + d) (Val.mv d ψ ρ v)
  | .look h a s => .look (ψ h) (ψ a) (s + d)
  | .made s => .made (s + d)
def Res.mv (d : Nat) (ψ : Nat → Nat) (ρ : Env) : Res → Res
  | .val v => .val (Val.mv d ψ ρ v)
  | .out o => .out o
def mvT (d : Nat) (ψ : Nat → Nat) (ρ : Env) (t : List Ev) : List Ev := t.map (Ev.mv d ψ ρ)
section
variable {d : Nat} {ψ : Nat → Nat} {ρ : Env}
theorem mvT_append (t u : List Ev) : mvT d ψ ρ (t ++ u) = mvT d ψ ρ t ++ mvT d ψ ρ u := List.map_append
theorem mvT_cons (x : Ev) (u : List Ev) : mvT d ψ ρ (x :: u) = x.mv d ψ ρ :: mvT d ψ ρ u := rfl
theorem nact_cons (x : Ev) (t : List Ev) : nact (x :: t) = x.isAct.toNat + nact t := by
  cases x with
  | act s y => rw [nact_act]; show _ = 1 + _; omega
  | bind a s v => rw [nact_bind]; show _ = 0 + _; omega
  | look h a s => rw [nact_look]; show _ = 0 + _; omega
  | made s => rw [nact_made]; show _ = 0 + _; omega
theorem nact_mv (t : List Ev) : nact (mvT d ψ ρ t) = nact t := by
  induction t with
  | nil => rfl
  | cons x t ih => rw [mvT_cons, nact_cons, nact_cons, ih]; cases x <;> rfl
theorem Env.get_mv : ∀ {r : Env} {k a s : Nat} {v : Val}, r.get k = some (a, s, v) → (Env.mv d ψ ρ r).get k = some (ψ a, s + d, Val.mv d ψ ρ v)
  | .nil, _, _, _, _, h => by cases h
  | .cons j a' s' v' r, k, a, s, v, h => by
    rw [Env.get] at h
    rw [Env.mv, Env.get]
    by_cases q : k = j
    · rw [if_pos q] at h ⊢; cases h; rfl
    · rw [if_neg q] at h ⊢; exact Env.get_mv h
theorem R.cast {e : E} {n n' : Nat} {r r' : Env} {h h' na na' left left' : Nat} {res res' : Res} {t t' : List Ev} (x : R e n r h na left res t) (e1 : n = n') (e2 : r = r') (e3 : h = h') (e4 : na = na') (e5 : left = left') (e6 : res = res') (e7 : t = t') : R e n' r' h' na' left' res' t' := by
  subst e1 e2 e3 e4 e5 e6 e7; exact x
theorem R.cast2 {b : E} {n k : Nat} {r : Env} {h na left c : Nat} {res res' : Res} {t u : List Ev} {dd : Nat} {ψ' : Nat → Nat} {ρ' : Env} (x : R b (n + k + dd) r h (na + nact t + c) (left - nact t) res u) (e : res = res') : R b (n + dd + k) r h (na + c + nact (mvT dd ψ' ρ' t)) (left - nact (mvT dd ψ' ρ' t)) res' u :=
  x.cast (by omega) rfl rfl (by rw [nact_mv]; omega) (by rw [nact_mv]) e rfl
theorem R.mv {c : Nat} (hψ : ∀ i, 1 ≤ i → ψ i = i + c) {e : E} {n : Nat} {r : Env} {h na left : Nat} {res : Res} {t : List Ev} (x : R e n r h na left res t) : 1 ≤ na → R e (n + d) (Env.mv d ψ ρ r) (ψ h) (na + c) left (Res.mv d ψ ρ res) (mvT d ψ ρ t) := by
  induction x with
  | num => intro _; exact .num
  | name g => intro _; exact .name (Env.get_mv g)
  | fn => intro _; exact .fn
  | ltS _ ih => intro h1; exact .ltS ((ih h1).cast (by omega) rfl rfl rfl rfl rfl rfl)
  | @lt k a b n r h na left v t res u _ _ i1 i2 =>
    intro h1
    have := R.lt ((i1 h1).cast (by omega : n + 1 + d = n + d + 1) rfl rfl rfl rfl rfl rfl) (((i2 (by omega)).cast (by omega : n + 1 + a.ns + d = n + d + 1 + a.ns) (by rw [Env.mv]) rfl (by rw [nact_mv]; omega : na + nact t + c = na + c + nact (mvT d ψ ρ t)) (by rw [nact_mv] : left - nact t = left - nact (mvT d ψ ρ t)) rfl rfl))
    rw [mvT_append]
    exact this
  | plusS1 _ ih => intro h1; exact .plusS1 (ih h1)
  | @plusS2 a b n r h na left v t o u _ _ i1 i2 =>
    intro h1
    rw [mvT_append]
    exact .plusS2 (i1 h1) ((i2 (by omega)).cast2 rfl)
  | @plus a b n r h na left i t j u _ _ i1 i2 =>
    intro h1
    rw [mvT_append]
    exact .plus (i1 h1) ((i2 (by omega)).cast2 rfl)
  | @plusF a b n r h na left v t w u _ _ f i1 i2 =>
    intro h1
    rw [mvT_append]
    refine .plusF (i1 h1) ((i2 (by omega)).cast2 rfl) ?_
    rcases f with ⟨_, _, _, _, _, rfl⟩ | ⟨_, _, _, _, _, rfl⟩
    · exact .inl ⟨_, _, _, _, _, rfl⟩
    · exact .inr ⟨_, _, _, _, _, rfl⟩
  | iteS _ ih => intro h1; exact .iteS (ih h1)
  | iteF _ ih => intro h1; exact .iteF (ih h1)
  | iteT _ hi _ i1 i2 =>
    intro h1
    rw [mvT_append]
    exact .iteT (i1 h1) hi ((i2 (by omega)).cast2 rfl)
  | iteE _ _ i1 i2 =>
    intro h1
    rw [mvT_append]
    exact .iteE (i1 h1) ((i2 (by omega)).cast (Nat.add_right_comm _ _ _ |>.trans (by rw [Nat.add_right_comm _ _ d])) rfl rfl (by rw [nact_mv]; exact Nat.add_right_comm _ _ _) (by rw [nact_mv]) rfl rfl)
  | callS1 _ ih => intro h1; exact .callS1 (ih h1)
  | callS2 _ _ i1 i2 =>
    intro h1
    rw [mvT_append]
    exact .callS2 (i1 h1) ((i2 (by omega)).cast2 rfl)
  | callF _ _ i1 i2 =>
    intro h1
    rw [mvT_append]
    exact .callF (i1 h1) ((i2 (by omega)).cast2 rfl)
  | callL _ _ hl i1 i2 =>
    intro h1
    rw [mvT_append]
    exact .callL (i1 h1) ((i2 (by omega)).cast2 rfl) (by rw [nact_mv, nact_mv]; exact hl)
  | @call a b n r h na left k cc s q z t w u res p _ _ hl _ i1 i2 i3 =>
    intro h1
    have ee := hψ (na + nact t + nact u) (by omega)
    have := R.call (i1 h1) ((i2 (by omega)).cast (by omega : n + a.ns + d = n + d + a.ns) rfl rfl (by rw [nact_mv]; omega : na + nact t + c = na + c + nact (mvT d ψ ρ t)) (by rw [nact_mv] : left - nact t = left - nact (mvT d ψ ρ t)) rfl rfl) (by rw [nact_mv, nact_mv]; exact hl)
      ((i3 (by omega)).cast (by omega : s + 1 + d = s + d + 1) (by rw [Env.mv, ee, nact_mv, nact_mv]; congr 1; omega) (by rw [ee, nact_mv, nact_mv]; omega) (by rw [nact_mv, nact_mv]; omega) (by rw [nact_mv, nact_mv]) rfl rfl)
    refine this.cast rfl rfl rfl rfl rfl rfl ?_
    rw [mvT_append, mvT_append, mvT_cons, mvT_cons]
    show _ = _ ++ Ev.act (s + d) (ψ z) :: Ev.bind (ψ (na + nact t + nact u)) (s + d) _ :: _
    rw [ee, nact_mv, nact_mv]
    congr 3
    congr 1
    omega
/-- by a greater number the same, where it is done -/
theorem R.more {e : E} {n : Nat} {r : Env} {h na left : Nat} {res : Res} {t : List Ev} (x : R e n r h na left res t) : res ≠ .out .still → ∀ l, nact t ≤ l → R e n r h na l res t := by
  induction x with
  | num => intro _ l _; exact .num
  | name g => intro _ l _; exact .name g
  | fn => intro _ l _; exact .fn
  | ltS _ ih => intro h1 l h2; exact .ltS (ih h1 l h2)
  | lt _ _ i1 i2 => intro h1 l h2; rw [nact_append, nact_bind] at h2; exact .lt (i1 (fun z => nomatch z) l (by omega)) (i2 h1 _ (by omega))
  | plusS1 _ ih => intro h1 l h2; exact .plusS1 (ih h1 l h2)
  | plusS2 _ _ i1 i2 => intro h1 l h2; rw [nact_append] at h2; exact .plusS2 (i1 (fun z => nomatch z) l (by omega)) (i2 h1 _ (by omega))
  | plus _ _ i1 i2 => intro h1 l h2; rw [nact_append] at h2; exact .plus (i1 (fun z => nomatch z) l (by omega)) (i2 (fun z => nomatch z) _ (by omega))
  | plusF _ _ f i1 i2 => intro h1 l h2; rw [nact_append] at h2; exact .plusF (i1 (fun z => nomatch z) l (by omega)) (i2 (fun z => nomatch z) _ (by omega)) f
  | iteS _ ih => intro h1 l h2; exact .iteS (ih h1 l h2)
  | iteF _ ih => intro h1 l h2; exact .iteF (ih (fun z => nomatch z) l h2)
  | iteT _ hi _ i1 i2 => intro h1 l h2; rw [nact_append] at h2; exact .iteT (i1 (fun z => nomatch z) l (by omega)) hi (i2 h1 _ (by omega))
  | iteE _ _ i1 i2 => intro h1 l h2; rw [nact_append] at h2; exact .iteE (i1 (fun z => nomatch z) l (by omega)) (i2 h1 _ (by omega))
  | callS1 _ ih => intro h1 l h2; exact .callS1 (ih h1 l h2)
  | callS2 _ _ i1 i2 => intro h1 l h2; rw [nact_append] at h2; exact .callS2 (i1 (fun z => nomatch z) l (by omega)) (i2 h1 _ (by omega))
  | callF _ _ i1 i2 => intro h1 l h2; rw [nact_append] at h2; exact .callF (i1 (fun z => nomatch z) l (by omega)) (i2 (fun z => nomatch z) _ (by omega))
  | callL _ _ hl i1 i2 => intro h1; exact absurd rfl h1
  | call _ _ hl _ i1 i2 i3 =>
    intro h1 l h2
    rw [nact_append, nact_append, nact_act, nact_bind] at h2
    exact .call (i1 (fun z => nomatch z) l (by omega)) (i2 (fun z => nomatch z) _ (by omega)) (by omega) (i3 h1 _ (by omega))
end
/-! ### what a log has -/
def actsT (t : List Ev) : List (Nat × Nat) := t.filterMap fun | .act s y => some (s, y) | _ => none
def bindsT (t : List Ev) : List ((Nat × Nat) × Wo) := t.filterMap fun | .bind a s v => some ((a, s), v.wo) | _ => none
def looksT (t : List Ev) : List (Nat × Nat × Nat) := t.filterMap fun | .look h a s => some (h, a, s) | _ => none
def madeT (t : List Ev) : List Nat := t.filterMap fun | .made s => some s | _ => none
theorem actsT_app (t u : List Ev) : actsT (t ++ u) = actsT t ++ actsT u := List.filterMap_append
theorem bindsT_app (t u : List Ev) : bindsT (t ++ u) = bindsT t ++ bindsT u := List.filterMap_append
theorem looksT_app (t u : List Ev) : looksT (t ++ u) = looksT t ++ looksT u := List.filterMap_append
theorem madeT_app (t u : List Ev) : madeT (t ++ u) = madeT t ++ madeT u := List.filterMap_append
theorem evs_T (t : List Ev) : ∀ L : Lg, L.evs t = ⟨L.ow ++ (actsT t).map fun p => some p.1, L.up ++ (actsT t).map fun p => some p.2, L.wo ++ bindsT t, L.lk ++ looksT t, L.md ++ madeT t⟩ := by
  induction t with
  | nil => intro L; simp [Lg.evs_nil, actsT, bindsT, looksT, madeT]
  | cons x t ih =>
    intro L
    rw [Lg.evs_cons, ih]
    cases x <;> simp [Lg.ev, actsT, bindsT, looksT, madeT]
theorem actsT_len (t : List Ev) : (actsT t).length = nact t := by
  induction t with
  | nil => rfl
  | cons x t ih =>
    rw [nact_cons, ← ih]
    cases x <;> simp [actsT, Ev.isAct] <;> omega
theorem log_ow (t : List Ev) : (Lg0.evs t).ow = none :: (actsT t).map fun p => some p.1 := by rw [evs_T]; rfl
theorem log_up (t : List Ev) : (Lg0.evs t).up = none :: (actsT t).map fun p => some p.2 := by rw [evs_T]; rfl
theorem log_wo (t : List Ev) : (Lg0.evs t).wo = bindsT t := by rw [evs_T]; rfl
theorem log_lk (t : List Ev) : (Lg0.evs t).lk = looksT t := by rw [evs_T]; rfl
theorem log_md (t : List Ev) : (Lg0.evs t).md = madeT t := by rw [evs_T]; rfl
section
variable {d : Nat} {ψ : Nat → Nat} {ρ : Env}
theorem actsT_mv (t : List Ev) : actsT (mvT d ψ ρ t) = (actsT t).map fun p => (p.1 + d, ψ p.2) := by
  induction t with
  | nil => rfl
  | cons x t ih => rw [mvT_cons]; cases x <;> simp [actsT, Ev.mv] at ih ⊢ <;> exact ih
theorem looksT_mv (t : List Ev) : looksT (mvT d ψ ρ t) = (looksT t).map fun p => (ψ p.1, ψ p.2.1, p.2.2 + d) := by
  induction t with
  | nil => rfl
  | cons x t ih => rw [mvT_cons]; cases x <;> simp [looksT, Ev.mv] at ih ⊢ <;> exact ih
theorem madeT_mv (t : List Ev) : madeT (mvT d ψ ρ t) = (madeT t).map fun s => s + d := by
  induction t with
  | nil => rfl
  | cons x t ih => rw [mvT_cons]; cases x <;> simp [madeT, Ev.mv] at ih ⊢ <;> exact ih
theorem bindsT_mv (t : List Ev) : (bindsT (mvT d ψ ρ t)).map (·.1) = (bindsT t).map fun p => (ψ p.1.1, p.1.2 + d) := by
  induction t with
  | nil => rfl
  | cons x t ih => rw [mvT_cons]; cases x <;> simp [bindsT, Ev.mv] at ih ⊢ <;> exact ih
end
end EW

namespace EW
/-! ### what holds of each look and each function made, by what the text says -/
def Sok (P : Option Nat → Nat → Prop) (F : Nat → Prop) : Option Nat → E → Prop
  | _, .num _ => True
  | o, .name s => P o s
  | o, .plus a b => Sok P F o a ∧ Sok P F o b
  | o, .lt _ a b => Sok P F o a ∧ Sok P F o b
  | _, .fn s b => F s ∧ Sok P F (some s) b
  | o, .call a b => Sok P F o a ∧ Sok P F o b
  | o, .ite c a b => Sok P F o c ∧ Sok P F o a ∧ Sok P F o b
theorem Sok.imp {P P' : Option Nat → Nat → Prop} {F F' : Nat → Prop} (hp : ∀ o s, P o s → P' o s) (hf : ∀ s, F s → F' s) : ∀ {o : Option Nat} {e : E}, Sok P F o e → Sok P' F' o e
  | _, .num _, _ => trivial
  | o, .name s, h => hp _ _ h
  | o, .plus a b, h => ⟨Sok.imp hp hf h.1, Sok.imp hp hf h.2⟩
  | o, .lt _ a b, h => ⟨Sok.imp hp hf h.1, Sok.imp hp hf h.2⟩
  | _, .fn s b, h => ⟨hf _ h.1, Sok.imp hp hf h.2⟩
  | o, .call a b, h => ⟨Sok.imp hp hf h.1, Sok.imp hp hf h.2⟩
  | o, .ite c a b, h => ⟨Sok.imp hp hf h.1, Sok.imp hp hf h.2.1, Sok.imp hp hf h.2.2⟩
section
variable {P : Option Nat → Nat → Prop} {F : Nat → Prop}
def TkOk (P : Option Nat → Nat → Prop) (F : Nat → Prop) (w : List (Option Nat)) : Tk → Prop
  | .run e h => ∃ o, w[h]? = some o ∧ Sok P F o e
  | .plus => True
  | .bind _ e h => ∃ o, w[h]? = some o ∧ Sok P F o e
  | .ite a b h => ∃ o, w[h]? = some o ∧ Sok P F o a ∧ Sok P F o b
  | .call => True
def WoOk (P : Option Nat → Nat → Prop) (F : Nat → Prop) : Wo → Prop
  | .int _ => True
  | .clo s b _ => F s ∧ Sok P F (some s) b
theorem get_app {α : Type} {l m : List α} {i : Nat} {x : α} (h : l[i]? = some x) : (l ++ m)[i]? = some x := by
  rw [List.getElem?_append_left (List.getElem?_eq_some_iff.mp h).1]; exact h
theorem TkOk.app {w v : List (Option Nat)} : ∀ {k : Tk}, TkOk P F w k → TkOk P F (w ++ v) k
  | .run e h, ⟨o, h1, h2⟩ => ⟨o, get_app h1, h2⟩
  | .plus, _ => trivial
  | .bind _ e h, ⟨o, h1, h2⟩ => ⟨o, get_app h1, h2⟩
  | .ite a b h, ⟨o, h1, h2⟩ => ⟨o, get_app h1, h2⟩
  | .call, _ => trivial
structure MsOk (P : Option Nat → Nat → Prop) (F : Nat → Prop) (M : MS) : Prop where
  wk : ∀ x ∈ M.wk, TkOk P F M.lg.ow x
  rs : ∀ x ∈ M.rs, WoOk P F x
  wo : ∀ x ∈ M.lg.wo, WoOk P F x.2
  lk : ∀ x ∈ M.lg.lk, ∃ o, M.lg.ow[x.1]? = some o ∧ P o x.2.2
  md : ∀ s ∈ M.lg.md, F s
  ow : ∀ s, some s ∈ M.lg.ow → F s
theorem lookup_mem {α β : Type} [BEq α] {k : α} {b : β} : ∀ {l : List (α × β)}, l.lookup k = some b → ∃ a, (a, b) ∈ l
  | [], h => by cases h
  | (a, c) :: l, h => by
    rw [List.lookup_cons] at h
    cases e : k == a with
    | true => rw [e] at h; cases h; exact ⟨a, List.mem_cons_self⟩
    | false => rw [e] at h; obtain ⟨x, hx⟩ := lookup_mem h; exact ⟨x, List.mem_cons_of_mem _ hx⟩
theorem all1 {α : Type} {p : α → Prop} {l : List α} {x : α} (h : ∀ y ∈ l ++ [x], p y) : (∀ y ∈ l, p y) ∧ p x := ⟨fun y hy => h y (List.mem_append.mpr (.inl hy)), h x (List.mem_append.mpr (.inr List.mem_cons_self))⟩
theorem all2 {α : Type} {p : α → Prop} {l : List α} {x z : α} (h : ∀ y ∈ l ++ [x, z], p y) : (∀ y ∈ l, p y) ∧ p x ∧ p z := ⟨fun y hy => h y (List.mem_append.mpr (.inl hy)), h x (List.mem_append.mpr (.inr List.mem_cons_self)), h z (List.mem_append.mpr (.inr (List.mem_cons_of_mem _ List.mem_cons_self)))⟩
theorem mk1 {α : Type} {p : α → Prop} {l : List α} {x : α} (h : ∀ y ∈ l, p y) (g : p x) : ∀ y ∈ l ++ [x], p y := fun y hy => by
  rcases List.mem_append.mp hy with z | z
  · exact h y z
  · rw [List.mem_singleton.mp z]; exact g
theorem mk2 {α : Type} {p : α → Prop} {l : List α} {x z : α} (h : ∀ y ∈ l, p y) (g : p x) (g' : p z) : ∀ y ∈ l ++ [x, z], p y := fun y hy => by
  rcases List.mem_append.mp hy with q | q
  · exact h y q
  · rcases List.mem_cons.mp q with q | q
    · rw [q]; exact g
    · rw [List.mem_singleton.mp q]; exact g'
theorem mk3 {α : Type} {p : α → Prop} {l : List α} {x z v : α} (h : ∀ y ∈ l, p y) (g : p x) (g' : p z) (g'' : p v) : ∀ y ∈ l ++ [x, z, v], p y := fun y hy => by
  rcases List.mem_append.mp hy with q | q
  · exact h y q
  · rcases List.mem_cons.mp q with q | q
    · rw [q]; exact g
    · rcases List.mem_cons.mp q with q | q
      · rw [q]; exact g'
      · rw [List.mem_singleton.mp q]; exact g''
theorem Step.ok {so : Nat → Option (Option Nat)} {M N : MS} (x : Step so M N) (h : MsOk P F M) : MsOk P F N := by
  obtain ⟨hwk, hrs, hwo, hlk, hmd, how⟩ := h
  cases x with
  | num => exact ⟨(all1 hwk).1, mk1 hrs trivial, hwo, hlk, hmd, how⟩
  | name r g =>
    obtain ⟨o, h1, h2⟩ := (all1 hwk).2
    obtain ⟨k, hk⟩ := lookup_mem g
    exact ⟨(all1 hwk).1, mk1 hrs (hwo _ hk), hwo, mk1 hlk ⟨o, h1, h2⟩, hmd, how⟩
  | fn =>
    obtain ⟨o, h1, h2, h3⟩ := (all1 hwk).2
    exact ⟨(all1 hwk).1, mk1 hrs ⟨h2, h3⟩, hwo, hlk, mk1 hmd h2, how⟩
  | lt =>
    obtain ⟨o, h1, h2, h3⟩ := (all1 hwk).2
    exact ⟨mk2 (all1 hwk).1 ⟨o, h1, h3⟩ ⟨o, h1, h2⟩, hrs, hwo, hlk, hmd, how⟩
  | ite0 =>
    obtain ⟨o, h1, h2, h3⟩ := (all1 hwk).2
    exact ⟨mk2 (all1 hwk).1 ⟨o, h1, h3⟩ ⟨o, h1, h2⟩, hrs, hwo, hlk, hmd, how⟩
  | plus0 =>
    obtain ⟨o, h1, h2, h3⟩ := (all1 hwk).2
    exact ⟨mk3 (all1 hwk).1 trivial ⟨o, h1, h3⟩ ⟨o, h1, h2⟩, hrs, hwo, hlk, hmd, how⟩
  | call0 =>
    obtain ⟨o, h1, h2, h3⟩ := (all1 hwk).2
    exact ⟨mk3 (all1 hwk).1 trivial ⟨o, h1, h3⟩ ⟨o, h1, h2⟩, hrs, hwo, hlk, hmd, how⟩
  | bind f =>
    obtain ⟨o, h1, h2⟩ := (all1 hwk).2
    exact ⟨mk1 (all1 hwk).1 ⟨o, h1, h2⟩, (all1 hrs).1, mk1 hwo (all1 hrs).2, hlk, hmd, how⟩
  | plus => exact ⟨(all1 hwk).1, mk1 (all2 hrs).1 trivial, hwo, hlk, hmd, how⟩
  | plusF f => exact ⟨(all1 hwk).1, (all2 hrs).1, hwo, hlk, hmd, how⟩
  | iteT f =>
    obtain ⟨o, h1, h2, h3⟩ := (all1 hwk).2
    exact ⟨mk1 (all1 hwk).1 ⟨o, h1, h2⟩, (all1 hrs).1, hwo, hlk, hmd, how⟩
  | iteE =>
    obtain ⟨o, h1, h2, h3⟩ := (all1 hwk).2
    exact ⟨mk1 (all1 hwk).1 ⟨o, h1, h3⟩, (all1 hrs).1, hwo, hlk, hmd, how⟩
  | iteF f => exact ⟨(all1 hwk).1, (all1 hrs).1, hwo, hlk, hmd, how⟩
  | callF => exact ⟨(all1 hwk).1, (all2 hrs).1, hwo, hlk, hmd, how⟩
  | callL => exact ⟨(all1 hwk).1, (all2 hrs).1, hwo, hlk, hmd, how⟩
  | @call l L wk rs s b u w f =>
    obtain ⟨h1, h2, h3⟩ := all2 hrs
    refine ⟨mk1 (fun y hy => ((all1 hwk).1 y hy).app) ⟨some s, ?_, h2.2⟩, h1, mk1 hwo h3, fun y hy => ?_, hmd, fun y hy => ?_⟩
    · show (L.ow ++ [some s])[L.ow.length]? = _
      rw [List.getElem?_append_right (Nat.le_refl _), Nat.sub_self] <;> rfl
    · obtain ⟨o, h4, h5⟩ := hlk y hy
      exact ⟨o, get_app h4, h5⟩
    · rcases List.mem_append.mp hy with q | q
      · exact how y q
      · have : y = s := Option.some.inj (List.mem_singleton.mp q)
        rw [this]; exact h2.1
theorem Steps.ok {so : Nat → Option (Option Nat)} {k : Nat} {M N : MS} (x : Steps so k M N) (h : MsOk P F M) : MsOk P F N := by
  induction x with
  | nil => exact h
  | cons s _ ih => exact ih (s.ok h)
structure LgOk (P : Option Nat → Nat → Prop) (F : Nat → Prop) (L : Lg) : Prop where
  wo : ∀ x ∈ L.wo, WoOk P F x.2
  lk : ∀ x ∈ L.lk, ∃ o, L.ow[x.1]? = some o ∧ P o x.2.2
  md : ∀ s ∈ L.md, F s
  ow : ∀ s, some s ∈ L.ow → F s
theorem Run.ok {e : E} {most : Nat} {res : Res} {t : List Ev} (x : Run e most res t) (h : Sok P F none (sit e (fun _ => none) 0)) : LgOk P F (Lg0.evs t) := by
  obtain ⟨k, M, _, st, fi⟩ := x.mach
  have q := st.ok (P := P) (F := F) ⟨fun y hy => by rw [List.mem_singleton.mp hy]; exact ⟨none, rfl, h⟩, (fun _ z => nomatch z), (fun _ z => nomatch z), (fun _ z => nomatch z), (fun _ z => nomatch z), fun s z => (by cases z with | tail _ z => cases z)⟩
  rw [← fi.lg]
  exact ⟨q.wo, q.lk, q.md, q.ow⟩
end
/-! ### what the text says -/
/-- a site as it is seen where o's activation runs: its own, or from outside, and then o uses it -/
def Seen (so : Nat → Option (Option Nat)) (us : Us) (o : Option Nat) (s : Nat) : Prop := so s = some o ∨ ∃ f, o = some f ∧ s < f ∧ ∃ u ∈ us, u.1 = f ∧ s ∈ u.2
def UsLe (us us' : Us) : Prop := ∀ u ∈ us, ∃ u' ∈ us', u'.1 = u.1 ∧ ∀ s ∈ u.2, s ∈ u'.2
theorem UsLe.refl {us : Us} : UsLe us us := fun u h => ⟨u, h, rfl, fun _ h => h⟩
theorem UsLe.trans {a b c : Us} (h : UsLe a b) (g : UsLe b c) : UsLe a c := fun u hu => by
  obtain ⟨v, hv, e1, q1⟩ := h u hu
  obtain ⟨w, hw, e2, q2⟩ := g v hv
  exact ⟨w, hw, e2.trans e1, fun s hs => q2 s (q1 s hs)⟩
theorem UsLe.keys {a b : Us} (h : UsLe a b) {s : Nat} (q : s ∈ a.map fun u => u.1) : s ∈ b.map fun u => u.1 := by
  obtain ⟨u, hu, rfl⟩ := List.mem_map.mp q
  obtain ⟨v, hv, e, _⟩ := h u hu
  exact List.mem_map.mpr ⟨v, hv, e⟩
theorem UsLe.look {ar : List Nat} {s : Nat} {us : Us} : UsLe us (look1 ar s us) := fun u hu => by
  refine ⟨_, List.mem_map.mpr ⟨u, hu, rfl⟩, ?_, ?_⟩
  · split <;> rfl
  · intro x hx
    split
    · exact List.mem_append.mpr (.inl hx)
    · exact hx
theorem UsLe.app {us v : Us} : UsLe us (us ++ v) := fun u hu => ⟨u, List.mem_append.mpr (.inl hu), rfl, fun _ h => h⟩
theorem mU_le : ∀ (e : E) (c : Sc) (n : Nat) (ar : List Nat) (us : Us), UsLe us (mU e c n ar us)
  | .num _, _, _, _, _ => .refl
  | .name k, c, _, ar, _ => .look
  | .plus a b, c, n, ar, _ => (mU_le a _ _ _ _).trans (mU_le b _ _ _ _)
  | .lt k a b, c, n, ar, _ => (mU_le a _ _ _ _).trans (mU_le b _ _ _ _)
  | .fn k b, c, n, ar, _ => UsLe.app.trans (mU_le b _ _ _ _)
  | .call a b, c, n, ar, _ => (mU_le a _ _ _ _).trans (mU_le b _ _ _ _)
  | .ite d a b, c, n, ar, _ => ((mU_le d _ _ _ _).trans (mU_le a _ _ _ _)).trans (mU_le b _ _ _ _)
theorem Seen.mono {so : Nat → Option (Option Nat)} {us us' : Us} (h : UsLe us us') {o : Option Nat} {s : Nat} : Seen so us o s → Seen so us' o s
  | .inl q => .inl q
  | .inr ⟨f, e, l, u, hu, e2, hs⟩ => by
    obtain ⟨u', hu', e3, q⟩ := h u hu
    exact .inr ⟨f, e, l, u', hu', e3.trans e2, q s hs⟩
theorem mU_sok {so : Nat → Option (Option Nat)} : ∀ (e : E) (c : Sc) (n : Nat) (o : Option Nat) (ar : List Nat) (us : Us) (B : List Nat), FitsL so (own e o n) n → e.Wf B → (∀ k ∈ B, ∃ s, c k = some s) →
    (∀ k s, c k = some s → s < n ∧ (so s = some o ∨ ∃ f, o = some f ∧ s < f)) → (∀ f, o = some f → f ∈ ar ∧ f ∈ us.map fun u => u.1) → Sok (Seen so (mU e c n ar us)) (fun s => s ∈ (mU e c n ar us).map fun u => u.1) o (sit e c n)
  | .num _, _, _, _, _, _, _, _, _, _, _, _ => trivial
  | .name k, c, n, o, ar, us, B, _, w, hb, hc, ho => by
    obtain ⟨s, es⟩ := hb k w.2
    show Seen so (look1 ar ((c k).getD 0) us) o ((c k).getD 0)
    rw [es]
    show Seen so (look1 ar s us) o s
    obtain ⟨h1, h2 | ⟨f, h2, h3⟩⟩ := hc k s es
    · exact .inl h2
    · obtain ⟨h4, h5⟩ := ho f h2
      obtain ⟨u, hu, eu⟩ := List.mem_map.mp h5
      refine .inr ⟨f, h2, h3, _, List.mem_map.mpr ⟨u, hu, rfl⟩, ?_, ?_⟩
      · split <;> exact eu
      · by_cases q : s ∈ u.2
        · rw [if_neg (fun z => z.2.2 q)]; exact q
        · rw [if_pos ⟨by rw [eu]; exact h4, by rw [eu]; exact h3, q⟩]; exact List.mem_append.mpr (.inr List.mem_cons_self)
  | .plus a b, c, n, o, ar, us, B, ft, w, hb, hc, ho => by
    have le := mU_le b c (n + a.ns) ar (mU a c n ar us)
    have x := mU_sok a c n o ar us B ft.left w.1 hb hc ho
    have y := mU_sok b c (n + a.ns) o ar (mU a c n ar us) B (ft.right (by rw [own_length])) w.2 hb (fun k s h => ⟨by have := (hc k s h).1; omega, (hc k s h).2⟩) (fun f h => ⟨(ho f h).1, by rw [mU_keys]; exact List.mem_append.mpr (.inl (ho f h).2)⟩)
    exact ⟨x.imp (fun _ _ q => q.mono le) (fun s q => le.keys q), y⟩
  | .lt k a b, c, n, o, ar, us, B, ft, w, hb, hc, ho => by
    have le := mU_le b (c.set k n) (n + 1 + a.ns) ar (mU a c (n + 1) ar us)
    have x := mU_sok a c (n + 1) o ar us B ft.tail.left w.2.1 hb (fun k s h => ⟨by have := (hc k s h).1; omega, (hc k s h).2⟩) ho
    have y := mU_sok b (c.set k n) (n + 1 + a.ns) o ar (mU a c (n + 1) ar us) (B ++ [k]) (ft.tail.right (by rw [own_length])) w.2.2 (fun j hj => by
        unfold Sc.set
        by_cases q : j = k
        · exact ⟨n, if_pos q⟩
        · rw [if_neg q]
          rcases List.mem_append.mp hj with z | z
          · exact hb j z
          · exact absurd (List.mem_singleton.mp z) q) (fun j s h => by
        unfold Sc.set at h
        by_cases q : j = k
        · rw [if_pos q] at h; cases h; exact ⟨by omega, .inl ft.head⟩
        · rw [if_neg q] at h; exact ⟨by have := (hc j s h).1; omega, (hc j s h).2⟩) (fun f h => ⟨(ho f h).1, by rw [mU_keys]; exact List.mem_append.mpr (.inl (ho f h).2)⟩)
    exact ⟨x.imp (fun _ _ q => q.mono le) (fun s q => le.keys q), y⟩
  | .fn k b, c, n, o, ar, us, B, ft, w, hb, hc, ho => by
    have y := mU_sok b (c.set k n) (n + 1) (some n) (ar ++ [n]) (us ++ [(n, [])]) (B ++ [k]) ft.tail w.2 (fun j hj => by
        unfold Sc.set
        by_cases q : j = k
        · exact ⟨n, if_pos q⟩
        · rw [if_neg q]
          rcases List.mem_append.mp hj with z | z
          · exact hb j z
          · exact absurd (List.mem_singleton.mp z) q) (fun j s h => by
        unfold Sc.set at h
        by_cases q : j = k
        · rw [if_pos q] at h; cases h; exact ⟨by omega, .inl ft.head⟩
        · rw [if_neg q] at h; have := (hc j s h).1; exact ⟨by omega, .inr ⟨n, rfl, this⟩⟩) (fun f h => by cases h; exact ⟨List.mem_append.mpr (.inr List.mem_cons_self), by simp⟩)
    refine ⟨?_, y⟩
    show n ∈ (mU b (c.set k n) (n + 1) (ar ++ [n]) (us ++ [(n, [])])).map fun u => u.1
    rw [mU_keys]
    simp
  | .call a b, c, n, o, ar, us, B, ft, w, hb, hc, ho => by
    have le := mU_le b c (n + a.ns) ar (mU a c n ar us)
    have x := mU_sok a c n o ar us B ft.left w.1 hb hc ho
    have y := mU_sok b c (n + a.ns) o ar (mU a c n ar us) B (ft.right (by rw [own_length])) w.2 hb (fun k s h => ⟨by have := (hc k s h).1; omega, (hc k s h).2⟩) (fun f h => ⟨(ho f h).1, by rw [mU_keys]; exact List.mem_append.mpr (.inl (ho f h).2)⟩)
    exact ⟨x.imp (fun _ _ q => q.mono le) (fun s q => le.keys q), y⟩
  | .ite d a b, c, n, o, ar, us, B, ft, w, hb, hc, ho => by
    have le := mU_le b c (n + d.ns + a.ns) ar (mU a c (n + d.ns) ar (mU d c n ar us))
    have le1 := mU_le a c (n + d.ns) ar (mU d c n ar us)
    have z := mU_sok d c n o ar us B ft.left w.1 hb hc ho
    have ft2 := ft.right (k := n + d.ns) (by rw [own_length])
    have x := mU_sok a c (n + d.ns) o ar (mU d c n ar us) B ft2.left w.2.1 hb (fun k s h => ⟨by have := (hc k s h).1; omega, (hc k s h).2⟩) (fun f h => ⟨(ho f h).1, by rw [mU_keys]; exact List.mem_append.mpr (.inl (ho f h).2)⟩)
    have y := mU_sok b c (n + d.ns + a.ns) o ar (mU a c (n + d.ns) ar (mU d c n ar us)) B (ft2.right (by rw [own_length])) w.2.2 hb (fun k s h => ⟨by have := (hc k s h).1; omega, (hc k s h).2⟩) (fun f h => ⟨(ho f h).1, by rw [mU_keys, mU_keys]; exact List.mem_append.mpr (.inl (List.mem_append.mpr (.inl (ho f h).2)))⟩)
    exact ⟨z.imp (fun _ _ q => q.mono (le1.trans le)) (fun s q => (le1.trans le).keys q), x.imp (fun _ _ q => q.mono le) (fun s q => le.keys q), y⟩
/-- what is said of a program's run -/
theorem Run.seen {e : E} {most : Nat} {res : Res} {t : List Ev} (x : Run e most res t) (w : e.Wf []) : LgOk (Seen (so0 e) (mU e (fun _ => none) 0 [] [])) (fun s => s ∈ funs e 0) (Lg0.evs t) := by
  refine x.ok ((mU_sok e (fun _ => none) 0 none [] [] [] (so0_fits e) w (fun _ h => nomatch h) (fun _ _ h => nomatch h) (fun _ h => nomatch h)).imp (fun _ _ h => h) fun s h => ?_)
  rw [mU_keys] at h
  exact h
end EW

namespace EW
inductive Way where
  | flat | tied | shared
/-- going up from h to a: how many of those met count (ct) -/
inductive LkC (L : Lg) (ct : Nat → Bool) : Nat → Nat → Nat → Nat → Prop where
  | here {a} : LkC L ct 0 a a 0
  | up {k h h' a c} (n : h ≠ a) (u : L.up[h]? = some (some h')) (r : LkC L ct k h' a c) : LkC L ct (k + 1) h a (c + (ct h').toNat)
/-- what a look takes -/
def LookC (y : Way) (L : Lg) (hs : Nat → Bool) (h a c : Nat) : Prop :=
  (h = a ∧ c = 1) ∨ (h ≠ a ∧ match y with
    | .flat => c = 2
    | .tied => ∃ k d, LkC L (fun _ => true) k h a d ∧ c = 1 + d
    | .shared => ∃ k d, LkC L hs k h a d ∧ c = 1 + d)
theorem Reach.lkc {so : Nat → Option (Option Nat)} {L : Lg} {ct : Nat → Bool} {h s a : Nat} (r : Reach so L h s a) : ∃ k c, LkC L ct k h a c := by
  have key : ∀ {h s a}, Reach so L h s a → ∀ x, so s = some x → L.ow[a]? = some x := by
    intro h s a r
    induction r with
    | here g e => intro x hx; rw [g] at hx; cases hx; exact e
    | up g e n u _ ih => intro x hx; exact ih x hx
  induction r with
  | here g e => exact ⟨0, 0, .here⟩
  | up g e n u r ih =>
    obtain ⟨k, c, ih⟩ := ih
    refine ⟨k + 1, _, .up (fun z => ?_) u ih⟩
    have := key r _ g
    rw [← z, e] at this
    exact n (Option.some.inj this)
theorem LkC.det {L : Lg} {ct : Nat → Bool} {k h a c : Nat} (x : LkC L ct k h a c) : ∀ {k' c'}, LkC L ct k' h a c' → k = k' ∧ c = c' := by
  induction x with
  | here =>
    intro k' c' y
    cases y with
    | here => exact ⟨rfl, rfl⟩
    | up n _ _ => exact absurd rfl n
  | up n u r ih =>
    intro k' c' y
    cases y with
    | here => exact absurd rfl n
    | up n' u' r' =>
      rw [u] at u'
      cases u'
      obtain ⟨e1, e2⟩ := ih r'
      exact ⟨by rw [e1], by rw [e2]⟩
theorem LookC.det {y : Way} {L : Lg} {hs : Nat → Bool} {h a c c' : Nat} (x : LookC y L hs h a c) (z : LookC y L hs h a c') : c = c' := by
  rcases x with ⟨e, x⟩ | ⟨n, x⟩ <;> rcases z with ⟨e', z⟩ | ⟨n', z⟩
  · rw [x, z]
  · exact absurd e n'
  · exact absurd e' n
  · cases y with
    | flat => exact Eq.trans x (Eq.symm z)
    | tied =>
      obtain ⟨k, d, l, rfl⟩ := x
      obtain ⟨k', d', l', rfl⟩ := z
      rw [(l.det l').2]
    | shared =>
      obtain ⟨k, d, l, rfl⟩ := x
      obtain ⟨k', d', l', rfl⟩ := z
      rw [(l.det l').2]
def LookCs (y : Way) (L : Lg) (hs : Nat → Bool) : List (Nat × Nat × Nat) → List Nat → Prop
  | [], [] => True
  | x :: xs, c :: cs => LookC y L hs x.1 x.2.1 c ∧ LookCs y L hs xs cs
  | _, _ => False
theorem LookCs.snoc {y : Way} {L : Lg} {hs : Nat → Bool} {x : Nat × Nat × Nat} {c : Nat} (h : LookC y L hs x.1 x.2.1 c) : ∀ {xs : List (Nat × Nat × Nat)} {cs : List Nat}, LookCs y L hs xs cs → LookCs y L hs (xs ++ [x]) (cs ++ [c])
  | [], [], _ => ⟨h, trivial⟩
  | _ :: _, _ :: _, ⟨q, r⟩ => ⟨q, LookCs.snoc h r⟩
theorem LookCs.det {y : Way} {L : Lg} {hs : Nat → Bool} : ∀ {xs : List (Nat × Nat × Nat)} {cs ds : List Nat}, LookCs y L hs xs cs → LookCs y L hs xs ds → cs = ds
  | [], [], [], _, _ => rfl
  | _ :: _, _ :: _, _ :: _, ⟨h, q⟩, ⟨h', q'⟩ => by rw [h.det h', LookCs.det q q']
theorem LookCs.app {y : Way} {L : Lg} {hs : Nat → Bool} : ∀ {xs zs : List (Nat × Nat × Nat)} {cs ds : List Nat}, LookCs y L hs xs cs → LookCs y L hs zs ds → LookCs y L hs (xs ++ zs) (cs ++ ds)
  | [], _, [], _, _, h => h
  | _ :: _, _, _ :: _, _, ⟨h, q⟩, h' => ⟨h, LookCs.app q h'⟩
theorem LookCs.mv {y : Way} {L L' : Lg} {hs hs' : Nat → Bool} (f : Nat × Nat × Nat → Nat × Nat × Nat) : ∀ {xs : List (Nat × Nat × Nat)} {cs : List Nat}, (∀ x ∈ xs, ∀ c, LookC y L hs x.1 x.2.1 c → LookC y L' hs' (f x).1 (f x).2.1 c) → LookCs y L hs xs cs → LookCs y L' hs' (xs.map f) cs
  | [], [], _, _ => trivial
  | x :: _, _ :: _, g, ⟨h, q⟩ => ⟨g x List.mem_cons_self _ h, LookCs.mv f (fun x hx => g x (List.mem_cons_of_mem _ hx)) q⟩
/-- whether activation h has what some fun uses from outside -/
def hsOf (e : E) (L : Lg) (h : Nat) : Bool := !(houseBy (own e none 0) (mU e sc0 0 [] []) ((L.ow[h]?).getD none)).isEmpty
/-- how many looks a run takes -/
def Looked (y : Way) (e : E) (t : List Ev) (n : Nat) : Prop := ∃ cs, LookCs y (Lg0.evs t) (hsOf e (Lg0.evs t)) (Lg0.evs t).lk cs ∧ n = cs.sum
theorem Looked.det {y : Way} {e : E} {t : List Ev} {n m : Nat} : Looked y e t n → Looked y e t m → n = m
  | ⟨cs, h, e1⟩, ⟨ds, g, e2⟩ => by rw [e1, e2, h.det g]
def hsz (n : Nat) : Nat := if n = 0 then 0 else 1 + n
/-- how much room a run takes -/
def roomN (y : Way) (e : E) (t : List Ev) : Nat :=
  match y with
  | .flat => ((madeT t).map fun s => 1 + (usedOf (mU e sc0 0 [] []) s).length).sum
  | .tied => 2 * (madeT t).length + ((Lg0.evs t).ow.map fun o => 1 + (sitesBy (own e none 0) o).length).sum
  | .shared => 2 * (madeT t).length + ((Lg0.evs t).ow.map fun o => hsz (houseBy (own e none 0) (mU e sc0 0 [] []) o).length).sum
end EW

namespace EW
/-! ### a program within a greater one, by its text -/
def om (d : Nat) (o' : Option Nat) : Option Nat → Option Nat
  | none => o'
  | some f => some (f + d)
theorem own_sh (d : Nat) (o' : Option Nat) : ∀ (e : E) (o : Option Nat) (n : Nat), own e (om d o' o) (n + d) = (own e o n).map (om d o')
  | .num _, _, _ => rfl
  | .name _, _, _ => rfl
  | .plus a b, o, n => by simp only [own, List.map_append]; rw [own_sh d o' a, ← own_sh d o' b, Nat.add_right_comm]
  | .lt _ a b, o, n => by simp only [own, List.map_append, List.map_cons]; rw [← own_sh d o' a, ← own_sh d o' b, Nat.add_right_comm n 1 d, Nat.add_right_comm (n + 1) a.ns d, Nat.add_right_comm n 1 d]
  | .fn _ b, o, n => by
    simp only [own, List.map_cons]
    rw [← own_sh d o' b, Nat.add_right_comm n 1 d]; rfl
  | .call a b, o, n => by simp only [own, List.map_append]; rw [own_sh d o' a, ← own_sh d o' b, Nat.add_right_comm]
  | .ite c a b, o, n => by simp only [own, List.map_append]; rw [own_sh d o' c, ← own_sh d o' a, ← own_sh d o' b, Nat.add_right_comm n c.ns d, Nat.add_right_comm (n + c.ns) a.ns d, Nat.add_right_comm n c.ns d]
theorem funs_sh (d : Nat) : ∀ (e : E) (n : Nat), funs e (n + d) = (funs e n).map fun f => f + d
  | .num _, _ => rfl
  | .name _, _ => rfl
  | .plus a b, n => by simp only [funs, List.map_append]; rw [funs_sh d a, ← funs_sh d b, Nat.add_right_comm]
  | .lt _ a b, n => by simp only [funs, List.map_append]; rw [← funs_sh d a, ← funs_sh d b, Nat.add_right_comm n 1 d, Nat.add_right_comm (n + 1) a.ns d, Nat.add_right_comm n 1 d]
  | .fn _ b, n => by simp only [funs, List.map_cons]; rw [← funs_sh d b, Nat.add_right_comm n 1 d]
  | .call a b, n => by simp only [funs, List.map_append]; rw [funs_sh d a, ← funs_sh d b, Nat.add_right_comm]
  | .ite c a b, n => by simp only [funs, List.map_append]; rw [funs_sh d c, ← funs_sh d a, ← funs_sh d b, Nat.add_right_comm n c.ns d, Nat.add_right_comm (n + c.ns) a.ns d, Nat.add_right_comm n c.ns d]
def shU (d : Nat) (us : Us) : Us := us.map fun u => (u.1 + d, u.2.map fun s => s + d)
theorem shU_app (d : Nat) (us vs : Us) : shU d (us ++ vs) = shU d us ++ shU d vs := List.map_append
theorem look1_app (ar : List Nat) (s : Nat) (us vs : Us) : look1 ar s (us ++ vs) = look1 ar s us ++ look1 ar s vs := List.map_append
theorem mem_sh {d s : Nat} {l : List Nat} : s + d ∈ (l.map fun x => x + d) ↔ s ∈ l := by
  rw [List.mem_map]
  constructor
  · rintro ⟨x, hx, e⟩
    have : x = s := by omega
    rw [← this]; exact hx
  · intro h; exact ⟨s, h, rfl⟩
theorem look1_sh {d s : Nat} {ar0 ar : List Nat} {us : Us} (h0 : ∀ f ∈ ar0, f < d) : look1 (ar0 ++ ar.map fun f => f + d) (s + d) (shU d us) = shU d (look1 ar s us) := by
  unfold look1 shU
  rw [List.map_map, List.map_map]
  refine List.map_congr_left fun u _ => ?_
  have e1 : u.1 + d ∈ ar0 ++ (ar.map fun f => f + d) ↔ u.1 ∈ ar := by
    rw [List.mem_append, mem_sh]
    constructor
    · rintro (h | h)
      · have := h0 _ h; omega
      · exact h
    · exact .inr
  by_cases c : u.1 ∈ ar ∧ s < u.1 ∧ s ∉ u.2
  · have c' : u.1 + d ∈ ar0 ++ (ar.map fun f => f + d) ∧ s + d < u.1 + d ∧ s + d ∉ (u.2.map fun s => s + d) := ⟨e1.mpr c.1, by omega, fun z => c.2.2 (mem_sh.mp z)⟩
    refine (if_pos c').trans ?_
    show _ = (((if u.1 ∈ ar ∧ s < u.1 ∧ s ∉ u.2 then (u.1, u.2 ++ [s]) else u).1 + d), ((if u.1 ∈ ar ∧ s < u.1 ∧ s ∉ u.2 then (u.1, u.2 ++ [s]) else u).2.map fun s => s + d))
    rw [if_pos c, List.map_append]
    rfl
  · have c' : ¬ (u.1 + d ∈ ar0 ++ (ar.map fun f => f + d) ∧ s + d < u.1 + d ∧ s + d ∉ (u.2.map fun s => s + d)) := fun z => c ⟨e1.mp z.1, by omega, fun q => z.2.2 (mem_sh.mpr q)⟩
    refine (if_neg c').trans ?_
    show _ = (((if u.1 ∈ ar ∧ s < u.1 ∧ s ∉ u.2 then (u.1, u.2 ++ [s]) else u).1 + d), ((if u.1 ∈ ar ∧ s < u.1 ∧ s ∉ u.2 then (u.1, u.2 ++ [s]) else u).2.map fun s => s + d))
    rw [if_neg c]
theorem look1_low {ar : List Nat} {s : Nat} {us : Us} (h : ∀ u ∈ us, u.1 ≤ s) : look1 ar s us = us := by
  unfold look1
  conv => rhs; rw [← List.map_id us]
  refine List.map_congr_left fun u hu => ?_
  have := h u hu
  rw [if_neg (fun z => by omega)]
  rfl
theorem set_sh {c c' : Sc} {B : List Nat} {d : Nat} (h : ∀ k ∈ B, ∃ s, c k = some s ∧ c' k = some (s + d)) (k n : Nat) : ∀ j ∈ B ++ [k], ∃ s, c.set k n j = some s ∧ c'.set k (n + d) j = some (s + d) := fun j hj => by
  unfold Sc.set
  by_cases q : j = k
  · exact ⟨n, if_pos q, if_pos q⟩
  · rw [if_neg q, if_neg q]
    rcases List.mem_append.mp hj with z | z
    · exact h j z
    · exact absurd (List.mem_singleton.mp z) q
theorem mU_sh {d : Nat} {ar0 : List Nat} (h0 : ∀ f ∈ ar0, f < d) : ∀ (e : E) (c c' : Sc) (n : Nat) (ar : List Nat) (us0 us : Us) (B : List Nat), e.Wf B → (∀ k ∈ B, ∃ s, c k = some s ∧ c' k = some (s + d)) → (∀ u ∈ us0, u.1 ≤ d) →
    mU e c' (n + d) (ar0 ++ ar.map fun f => f + d) (us0 ++ shU d us) = us0 ++ shU d (mU e c n ar us)
  | .num _, _, _, _, _, _, _, _, _, _, _ => rfl
  | .name k, c, c', n, ar, us0, us, B, w, hB, hu => by
    obtain ⟨s, e1, e2⟩ := hB k w.2
    show look1 _ ((c' k).getD 0) _ = us0 ++ shU d (look1 ar ((c k).getD 0) us)
    rw [e1, e2]
    show look1 _ (s + d) _ = us0 ++ shU d (look1 ar s us)
    rw [look1_app, look1_sh h0, look1_low fun u h => by have := hu u h; omega]
  | .plus a b, c, c', n, ar, us0, us, B, w, hB, hu => by
    simp only [mU]
    rw [mU_sh h0 a c c' n ar us0 us B w.1 hB hu, Nat.add_right_comm, mU_sh h0 b c c' (n + a.ns) ar us0 _ B w.2 hB hu]
  | .lt k a b, c, c', n, ar, us0, us, B, w, hB, hu => by
    simp only [mU]
    rw [Nat.add_right_comm n d 1, mU_sh h0 a c c' (n + 1) ar us0 us B w.2.1 hB hu, Nat.add_right_comm (n + 1) d, mU_sh h0 b (c.set k n) (c'.set k (n + d)) (n + 1 + a.ns) ar us0 _ (B ++ [k]) w.2.2 (set_sh hB k n) hu]
  | .fn k b, c, c', n, ar, us0, us, B, w, hB, hu => by
    simp only [mU]
    have e1 : ar0 ++ (ar.map fun f => f + d) ++ [n + d] = ar0 ++ (ar ++ [n]).map fun f => f + d := by rw [List.map_append, List.append_assoc]; rfl
    have e2 : us0 ++ shU d us ++ [(n + d, [])] = us0 ++ shU d (us ++ [(n, [])]) := by rw [shU_app, List.append_assoc]; rfl
    rw [e1, e2, Nat.add_right_comm n d 1, mU_sh h0 b (c.set k n) (c'.set k (n + d)) (n + 1) (ar ++ [n]) us0 _ (B ++ [k]) w.2 (set_sh hB k n) hu]
  | .call a b, c, c', n, ar, us0, us, B, w, hB, hu => by
    simp only [mU]
    rw [mU_sh h0 a c c' n ar us0 us B w.1 hB hu, Nat.add_right_comm, mU_sh h0 b c c' (n + a.ns) ar us0 _ B w.2 hB hu]
  | .ite q a b, c, c', n, ar, us0, us, B, w, hB, hu => by
    simp only [mU]
    rw [mU_sh h0 q c c' n ar us0 us B w.1 hB hu, Nat.add_right_comm n d, mU_sh h0 a c c' (n + q.ns) ar us0 _ B w.2.1 hB hu, Nat.add_right_comm (n + q.ns) d, mU_sh h0 b c c' (n + q.ns + a.ns) ar us0 _ B w.2.2 hB hu]
/-- a whole program at d, within the funs ar -/
theorem mU_at {d : Nat} {ar : List Nat} {us0 : Us} {e : E} {c : Sc} (w : e.Wf []) (h0 : ∀ f ∈ ar, f < d) (hu : ∀ u ∈ us0, u.1 ≤ d) : mU e c d ar us0 = us0 ++ shU d (mU e sc0 0 [] []) := by
  have := mU_sh h0 e sc0 c 0 [] us0 [] [] w (fun _ z => nomatch z) hu
  simpa [shU] using this
/-- the names in scope don't matter to a whole program -/
theorem own_at (d : Nat) (o' : Option Nat) (e : E) : own e o' d = (own e none 0).map (om d o') := by
  have := own_sh d o' e none 0
  rw [Nat.zero_add] at this
  exact this
theorem funs_at (d : Nat) (e : E) : funs e d = (funs e 0).map fun f => f + d := by
  have := funs_sh d e 0
  rw [Nat.zero_add] at this
  exact this
/-! what the lists have -/
theorem Good.lt {us : Us} (h : Good us) {N : Nat} (k : ∀ u ∈ us, u.1 < N) : ∀ u ∈ us, ∀ s ∈ u.2, s < N := fun u hu s hs => by have := (h u hu).2 s hs; have := k u hu; omega
theorem mU0_good (e : E) : Good (mU e sc0 0 [] []) := Good.mU e _ _ _ (fun _ z => nomatch z)
theorem mU0_key (e : E) : ∀ u ∈ mU e sc0 0 [] [], u.1 < e.ns := fun u hu => by
  have : u.1 ∈ (mU e sc0 0 [] []).map fun u => u.1 := List.mem_map.mpr ⟨u, hu, rfl⟩
  rw [mU_keys] at this
  have := (funs_range e 0 _ this).2
  omega
theorem mU0_lt (e : E) : ∀ u ∈ mU e sc0 0 [] [], ∀ s ∈ u.2, s < e.ns := (mU0_good e).lt (mU0_key e)
theorem housed_app (us vs : Us) (s : Nat) : housed (us ++ vs) s = (housed us s || housed vs s) := List.any_append
theorem housed_sh (d : Nat) (us : Us) (s : Nat) : housed (shU d us) (s + d) = housed us s := by
  unfold housed shU
  rw [List.any_map]
  congr 1
  funext u
  show decide (s + d ∈ u.2.map fun s => s + d) = _
  rw [decide_eq_decide]
  exact mem_sh
theorem housed_iff {us : Us} {s : Nat} : housed us s = true ↔ ∃ u ∈ us, s ∈ u.2 := by
  unfold housed
  rw [List.any_eq_true]
  constructor
  · rintro ⟨u, h, q⟩; exact ⟨u, h, of_decide_eq_true q⟩
  · rintro ⟨u, h, q⟩; exact ⟨u, h, decide_eq_true q⟩
theorem housed_no {us : Us} {s : Nat} (h : ∀ u ∈ us, s ∉ u.2) : housed us s = false := by
  cases e : housed us s with
  | false => rfl
  | true => obtain ⟨u, hu, q⟩ := housed_iff.mp e; exact absurd q (h u hu)
theorem sitesBy_app (l m : List (Option Nat)) (o : Option Nat) : sitesBy (l ++ m) o = sitesBy l o ++ (sitesBy m o).map fun s => s + l.length := by
  unfold sitesBy
  rw [List.length_append, List.range_add, List.filter_append, List.filter_map]
  congr 1
  · refine List.filter_congr fun s hs => ?_
    rw [List.getElem?_append_left (List.mem_range.mp hs)]
  · have : (fun x => l.length + x) = fun s => s + l.length := funext fun s => Nat.add_comm _ _
    rw [this]
    congr 1
    refine List.filter_congr fun s _ => ?_
    show decide ((l ++ m)[s + l.length]? = some o) = _
    rw [List.getElem?_append_right (by omega), Nat.add_sub_cancel]
theorem sitesBy_none {l : List (Option Nat)} {o : Option Nat} (h : o ∉ l) : sitesBy l o = [] := by
  unfold sitesBy
  rw [List.filter_eq_nil_iff]
  intro s _ q
  exact h (List.mem_of_getElem? (of_decide_eq_true q))
theorem sitesBy_om {d : Nat} {o' : Option Nat} (ho : ∀ f, o' = some f → f < d) (l : List (Option Nat)) (o : Option Nat) : sitesBy (l.map (om d o')) (om d o' o) = sitesBy l o := by
  unfold sitesBy
  rw [List.length_map]
  refine List.filter_congr fun s _ => ?_
  rw [decide_eq_decide, List.getElem?_map]
  cases h : l[s]? with
  | none => simp
  | some x =>
    show some (om d o' x) = some (om d o' o) ↔ some x = some o
    rw [Option.some_inj, Option.some_inj]
    constructor
    · intro q
      cases x with
      | none =>
        cases o with
        | none => rfl
        | some g =>
          have q' : o' = some (g + d) := q
          have := ho _ q'; omega
      | some f =>
        cases o with
        | none =>
          have q' : some (f + d) = o' := q
          have := ho _ q'.symm; omega
        | some g =>
          have q' : f + d = g + d := Option.some.inj q
          rw [show f = g by omega]
    · intro q; rw [q]
theorem sitesBy_mem {l : List (Option Nat)} {o : Option Nat} {s : Nat} : s ∈ sitesBy l o ↔ l[s]? = some o := by
  unfold sitesBy
  rw [List.mem_filter, List.mem_range, decide_eq_true_iff]
  constructor
  · exact fun h => h.2
  · exact fun h => ⟨(List.getElem?_eq_some_iff.mp h).1, h⟩
/-- e stands in E, its sites by d greater, done by o' -/
structure Emb (E0 e : E) (d : Nat) (o' : Option Nat) (pre post : List (Option Nat)) (us0 us1 : Us) : Prop where
  own : own E0 none 0 = pre ++ ((own e none 0).map (om d o') ++ post)
  len : pre.length = d
  up : ∀ f, o' = some f → f < d
  out : ∀ f, d ≤ f → f < d + e.ns → some f ∉ pre ∧ some f ∉ post
  us : mU E0 sc0 0 [] [] = us0 ++ (shU d (mU e sc0 0 [] []) ++ us1)
  keys : ∀ u ∈ us0 ++ us1, (u.1 < d ∨ d + e.ns ≤ u.1) ∧ ∀ s ∈ u.2, s < d ∨ d + e.ns ≤ s
section
variable {E0 e : E} {d : Nat} {o' : Option Nat} {pre post : List (Option Nat)} {us0 us1 : Us}
theorem Emb.housed (m : Emb E0 e d o' pre post us0 us1) {s : Nat} (h : s < e.ns) : housed (mU E0 sc0 0 [] []) (s + d) = housed (mU e sc0 0 [] []) s := by
  rw [m.us, housed_app, housed_app, housed_sh, housed_no fun u hu q => by have := (m.keys u (List.mem_append.mpr (.inl hu))).2 _ q; omega, housed_no (us := us1) fun u hu q => by have := (m.keys u (List.mem_append.mpr (.inr hu))).2 _ q; omega]
  simp
theorem Emb.sites (m : Emb E0 e d o' pre post us0 us1) (o : Option Nat) : sitesBy (EW.own E0 none 0) (om d o' o) = sitesBy pre (om d o' o) ++ ((sitesBy (EW.own e none 0) o).map (fun s => s + d) ++ (sitesBy post (om d o' o)).map fun s => s + (d + e.ns)) := by
  rw [m.own, sitesBy_app, sitesBy_app, sitesBy_om m.up, m.len, List.map_append, List.map_map, List.length_map, own_length]
  have : ((fun s => s + d) ∘ fun s => s + e.ns) = fun s => s + (d + e.ns) := funext fun s => by show s + e.ns + d = _; omega
  rw [this]
theorem Emb.sitesF (m : Emb E0 e d o' pre post us0 us1) {f : Nat} (h : f < e.ns) : sitesBy (EW.own E0 none 0) (some (f + d)) = (sitesBy (EW.own e none 0) (some f)).map fun s => s + d := by
  have := m.sites (some f)
  obtain ⟨h1, h2⟩ := m.out (f + d) (by omega) (by omega)
  rw [show om d o' (some f) = some (f + d) from rfl, sitesBy_none h1, sitesBy_none h2] at this
  simpa using this
theorem sitesBy_lt {e : E} {o : Option Nat} {s : Nat} (h : s ∈ sitesBy (EW.own e none 0) o) : s < e.ns := by
  have := (List.getElem?_eq_some_iff.mp (sitesBy_mem.mp h)).1
  rw [own_length] at this
  exact this
theorem Emb.filt (m : Emb E0 e d o' pre post us0 us1) (o : Option Nat) : ((sitesBy (EW.own e none 0) o).map fun s => s + d).filter (EW.housed (mU E0 sc0 0 [] [])) = (houseBy (EW.own e none 0) (mU e sc0 0 [] []) o).map fun s => s + d := by
  unfold houseBy
  rw [List.filter_map]
  congr 1
  exact List.filter_congr fun s hs => m.housed (sitesBy_lt hs)
theorem Emb.houseF (m : Emb E0 e d o' pre post us0 us1) {f : Nat} (h : f < e.ns) : houseBy (EW.own E0 none 0) (mU E0 sc0 0 [] []) (some (f + d)) = (houseBy (EW.own e none 0) (mU e sc0 0 [] []) (some f)).map fun s => s + d := by
  rw [← m.filt]
  unfold houseBy
  rw [m.sitesF h]
theorem Emb.so (m : Emb E0 e d o' pre post us0 us1) {s : Nat} {x : Option Nat} (h : so0 e s = some x) : so0 E0 (s + d) = some (om d o' x) := by
  unfold so0 at h ⊢
  have hl := (List.getElem?_eq_some_iff.mp h).1
  rw [m.own, List.getElem?_append_right (by rw [m.len]; omega), m.len, Nat.add_sub_cancel, List.getElem?_append_left (by rw [List.length_map]; exact hl), List.getElem?_map, h]
  rfl
/-- an activation whose fun has what is looked at has a house -/
theorem houseBy_ne {E0 : E} {s : Nat} {o : Option Nat} (h1 : so0 E0 s = some o) (h2 : EW.housed (mU E0 sc0 0 [] []) s = true) : houseBy (EW.own E0 none 0) (mU E0 sc0 0 [] []) o ≠ [] := by
  intro z
  have : s ∈ houseBy (EW.own E0 none 0) (mU E0 sc0 0 [] []) o := List.mem_filter.mpr ⟨sitesBy_mem.mpr h1, h2⟩
  rw [z] at this
  cases this
theorem lookup_no {α : Type} {k : Nat} : ∀ {l : List (Nat × α)}, (∀ u ∈ l, u.1 ≠ k) → l.lookup k = none
  | [], _ => rfl
  | (a, b) :: l, h => by
    rw [List.lookup_cons]
    have : (k == a) = false := beq_eq_false_iff_ne.mpr fun z => h _ List.mem_cons_self z.symm
    rw [this]
    exact lookup_no fun u hu => h u (List.mem_cons_of_mem _ hu)
theorem lookup_yes {α : Type} {k : Nat} : ∀ {l : List (Nat × α)}, k ∈ (l.map fun u => u.1) → ∃ x, l.lookup k = some x ∧ (k, x) ∈ l
  | [], h => nomatch h
  | (a, b) :: l, h => by
    rw [List.lookup_cons]
    by_cases c : k = a
    · subst c
      rw [beq_self_eq_true]
      exact ⟨b, rfl, List.mem_cons_self⟩
    · rw [beq_eq_false_iff_ne.mpr c]
      rcases List.mem_cons.mp h with z | z
      · exact absurd z c
      · obtain ⟨x, h1, h2⟩ := lookup_yes z
        exact ⟨x, h1, List.mem_cons_of_mem _ h2⟩
theorem lookup_sh {d k : Nat} : ∀ {l : Us}, (shU d l).lookup (k + d) = (l.lookup k).map fun x => x.map fun s => s + d
  | [] => rfl
  | (a, b) :: l => by
    show ((a + d, b.map fun s => s + d) :: shU d l).lookup (k + d) = _
    rw [List.lookup_cons, List.lookup_cons]
    by_cases c : k = a
    · subst c
      rw [beq_self_eq_true, beq_self_eq_true]
      rfl
    · rw [beq_eq_false_iff_ne.mpr c, beq_eq_false_iff_ne.mpr (fun z => c (by omega))]
      exact lookup_sh
theorem Emb.used (m : Emb E0 e d o' pre post us0 us1) {f : Nat} (h : f < e.ns) : usedOf (mU E0 sc0 0 [] []) (f + d) = (usedOf (mU e sc0 0 [] []) f).map fun s => s + d := by
  unfold usedOf
  rw [m.us]
  have h0 : us0.lookup (f + d) = none := lookup_no fun u hu z => by have := (m.keys u (List.mem_append.mpr (.inl hu))).1; omega
  have h1 : us1.lookup (f + d) = none := lookup_no fun u hu z => by have := (m.keys u (List.mem_append.mpr (.inr hu))).1; omega
  rw [lookup_none_append h0]
  cases q : (mU e sc0 0 [] []).lookup f with
  | none =>
    rw [lookup_none_append (by rw [lookup_sh, q]; rfl), h1]
    rfl
  | some x =>
    rw [lookup_some_append (b := x.map fun s => s + d) (by rw [lookup_sh, q]; rfl)]
    rfl
end
end EW

namespace EW
/-! ### a run within a greater one: what its looks take, what room it takes -/
def psi (h0 c i : Nat) : Nat := if i = 0 then h0 else i + c
theorem psi_pos {h0 c i : Nat} (h : 1 ≤ i) : psi h0 c i = i + c := if_neg (by omega)
theorem psi_zero {h0 c : Nat} : psi h0 c 0 = h0 := if_pos rfl
theorem psi_inj {h0 c i j : Nat} (h : h0 ≤ c) (e : psi h0 c i = psi h0 c j) : i = j := by
  unfold psi at e
  split at e <;> split at e <;> omega
structure SubT (t T : List Ev) (d h0 : Nat) (o' : Option Nat) (ρ : Env) (t0 t1 : List Ev) : Prop where
  eq : T = t0 ++ (mvT d (psi h0 (nact t0)) ρ t ++ t1)
  le : h0 ≤ nact t0
  ow : (Lg0.evs T).ow[h0]? = some o'
section
variable {t T t0 t1 : List Ev} {d h0 : Nat} {o' : Option Nat} {ρ : Env}
theorem SubT.acts (m : SubT t T d h0 o' ρ t0 t1) : actsT T = actsT t0 ++ ((actsT t).map (fun p => (p.1 + d, psi h0 (nact t0) p.2)) ++ actsT t1) := by rw [m.eq, actsT_app, actsT_app, actsT_mv]
theorem SubT.act (m : SubT t T d h0 o' ρ t0 t1) {i : Nat} {p : Nat × Nat} (h : (actsT t)[i]? = some p) : (actsT T)[i + nact t0]? = some (p.1 + d, psi h0 (nact t0) p.2) := by
  rw [m.acts, List.getElem?_append_right (by rw [actsT_len]; omega), actsT_len, Nat.add_sub_cancel]
  exact get_app (by rw [List.getElem?_map, h]; rfl)
theorem SubT.owE (m : SubT t T d h0 o' ρ t0 t1) {i : Nat} {o : Option Nat} (h : (Lg0.evs t).ow[i]? = some o) : (Lg0.evs T).ow[psi h0 (nact t0) i]? = some (om d o' o) := by
  cases i with
  | zero => rw [log_ow] at h; cases h; rw [psi_zero]; exact m.ow
  | succ i =>
    rw [log_ow, List.getElem?_cons_succ, List.getElem?_map] at h
    rw [psi_pos (by omega), log_ow, show i + 1 + nact t0 = (i + nact t0) + 1 by omega, List.getElem?_cons_succ, List.getElem?_map]
    cases q : (actsT t)[i]? with
    | none => rw [q] at h; cases h
    | some p => rw [q] at h; cases h; rw [m.act q]; rfl
theorem SubT.upE (m : SubT t T d h0 o' ρ t0 t1) {i y : Nat} (h : (Lg0.evs t).up[i]? = some (some y)) : (Lg0.evs T).up[psi h0 (nact t0) i]? = some (some (psi h0 (nact t0) y)) := by
  cases i with
  | zero => rw [log_up] at h; cases h
  | succ i =>
    rw [log_up, List.getElem?_cons_succ, List.getElem?_map] at h
    rw [psi_pos (by omega), log_up, show i + 1 + nact t0 = (i + nact t0) + 1 by omega, List.getElem?_cons_succ, List.getElem?_map]
    cases q : (actsT t)[i]? with
    | none => rw [q] at h; cases h
    | some p => rw [q] at h; cases h; rw [m.act q]; rfl
theorem Reach.owh {so : Nat → Option (Option Nat)} {L : Lg} {h s a : Nat} (r : Reach so L h s a) : ∃ o, L.ow[h]? = some o := by
  cases r with
  | here _ e => exact ⟨_, e⟩
  | up _ e _ _ _ => exact ⟨_, e⟩
theorem Reach.at {so : Nat → Option (Option Nat)} {L : Lg} {h s a : Nat} (r : Reach so L h s a) : ∀ x, so s = some x → L.ow[a]? = some x := by
  induction r with
  | here g e => intro x hx; rw [g] at hx; cases hx; exact e
  | up g e n u _ ih => intro x hx; exact ih x hx
theorem Reach.own {so : Nat → Option (Option Nat)} {L : Lg} {h s a : Nat} {o : Option Nat} (r : Reach so L h s a) (e : L.ow[h]? = some o) (g : so s = some o) : h = a := by
  cases r with
  | here _ _ => rfl
  | up g' e' n _ _ => rw [g] at g'; rw [e] at e'; cases g'; cases e'; exact absurd rfl n
theorem LkC.mv {so : Nat → Option (Option Nat)} {L L' : Lg} {ct ct' : Nat → Bool} {ψ : Nat → Nat} (inj : ∀ i j, ψ i = ψ j → i = j) (up0 : L.up[0]? = some none) (hup : ∀ i y, L.up[i]? = some (some y) → L'.up[ψ i]? = some (some (ψ y))) {h s a : Nat} (r : Reach so L h s a) :
    (∀ i o, L.ow[i]? = some o → (i ≠ 0 ∨ i = a) → ct' (ψ i) = ct i) → ∀ {k c : Nat}, LkC L ct k h a c → LkC L' ct' k (ψ h) (ψ a) c := by
  induction r with
  | here g e =>
    intro hc k c x
    cases x with
    | here => exact .here
    | up n _ _ => exact absurd rfl n
  | @up h s a h' o x0 g e n u r ih =>
    intro hc k c x
    cases x with
    | here => exact .here
    | @up k' _ h2 _ c' n' u' r' =>
      rw [u] at u'
      cases u'
      have q := ih hc r'
      obtain ⟨o2, e2⟩ := r.owh
      have hh : h' ≠ 0 ∨ h' = a := by
        by_cases z : h' = 0
        · right
          cases r' with
          | here => rfl
          | up _ u2 _ => rw [z, up0] at u2; cases u2
        · exact .inl z
      have := LkC.up (ct := ct') (fun z => n' (inj _ _ z)) (hup _ _ u) q
      rw [hc h' o2 e2 hh] at this
      exact this
/-- a look at what is not its own is at a house -/
theorem Run.far {e : E} {most : Nat} {res : Res} (x : Run e most res t) (w : e.Wf []) {l : Nat × Nat × Nat} (hl : l ∈ (Lg0.evs t).lk) (n : l.1 ≠ l.2.1) :
    ∃ o, so0 e l.2.2 = some o ∧ (Lg0.evs t).ow[l.2.1]? = some o ∧ housed (mU e sc0 0 [] []) l.2.2 = true := by
  have r := x.lkOk l hl
  obtain ⟨o, e1, e2⟩ := (x.seen w).lk l hl
  obtain ⟨y, hy⟩ := r.so
  refine ⟨y, hy, r.at y hy, ?_⟩
  rcases e2 with e2 | ⟨f, _, _, u, hu, _, hs⟩
  · exact absurd (r.own e1 e2) n
  · exact housed_iff.mpr ⟨u, hu, hs⟩
theorem Run.fun_lt {e : E} {most : Nat} {res : Res} (x : Run e most res t) (w : e.Wf []) {f : Nat} (h : some f ∈ (Lg0.evs t).ow) : f < e.ns := by
  have := (funs_range e 0 _ ((x.seen w).ow f h)).2
  omega
theorem Run.made_lt {e : E} {most : Nat} {res : Res} (x : Run e most res t) (w : e.Wf []) {f : Nat} (h : f ∈ madeT t) : f < e.ns := by
  have := (funs_range e 0 _ ((x.seen w).md f (by rw [log_md]; exact h))).2
  omega
section
variable {E0 e : E} {pre post : List (Option Nat)} {us0 us1 : Us} {most : Nat} {res : Res}
theorem isEmpty_map {α β : Type} (f : α → β) (l : List α) : (l.map f).isEmpty = l.isEmpty := by cases l <;> rfl
theorem SubT.look (m : SubT t T d h0 o' ρ t0 t1) (b : Emb E0 e d o' pre post us0 us1) (x : Run e most res t) (w : e.Wf []) (y : Way) {l : Nat × Nat × Nat} (hl : l ∈ (Lg0.evs t).lk) (c : Nat)
    (h : LookC y (Lg0.evs t) (hsOf e (Lg0.evs t)) l.1 l.2.1 c) : LookC y (Lg0.evs T) (hsOf E0 (Lg0.evs T)) (psi h0 (nact t0) l.1) (psi h0 (nact t0) l.2.1) c := by
  have inj : ∀ i j, psi h0 (nact t0) i = psi h0 (nact t0) j → i = j := fun i j z => psi_inj m.le z
  have up0 : (Lg0.evs t).up[0]? = some none := by rw [log_up]; rfl
  have r := x.lkOk l hl
  rcases h with ⟨e1, h⟩ | ⟨n, h⟩
  · exact .inl ⟨by rw [e1], h⟩
  · refine .inr ⟨fun z => n (inj _ _ z), ?_⟩
    cases y with
    | flat => exact h
    | tied =>
      obtain ⟨k, dd, q, rfl⟩ := h
      exact ⟨k, dd, LkC.mv inj up0 (fun i y => m.upE) r (fun _ _ _ _ => rfl) q, rfl⟩
    | shared =>
      obtain ⟨k, dd, q, rfl⟩ := h
      obtain ⟨o, f1, f2, f3⟩ := x.far w hl n
      refine ⟨k, dd, LkC.mv inj up0 (fun i y => m.upE) r (fun i oi ei hi => ?_) q, rfl⟩
      unfold hsOf
      rw [ei, m.owE ei]
      show (!(houseBy (own E0 none 0) (mU E0 sc0 0 [] []) (om d o' oi)).isEmpty) = !(houseBy (own e none 0) (mU e sc0 0 [] []) oi).isEmpty
      cases oi with
      | some f =>
        have hf := x.fun_lt w (List.mem_of_getElem? ei)
        show (!(houseBy (own E0 none 0) (mU E0 sc0 0 [] []) (some (f + d))).isEmpty) = _
        rw [b.houseF hf, isEmpty_map]
      | none =>
        have hi0 : i = l.2.1 := by
          rcases hi with hi | hi
          · cases i with
            | zero => exact absurd rfl hi
            | succ i =>
              rw [log_ow, List.getElem?_cons_succ, List.getElem?_map] at ei
              cases z : (actsT t)[i]? with
              | none => rw [z] at ei; cases ei
              | some p => rw [z] at ei; cases ei
          · exact hi
        rw [hi0] at ei
        rw [ei] at f2
        cases f2
        have hs : l.2.2 < e.ns := by
          have := (List.getElem?_eq_some_iff.mp f1).1
          rw [own_length] at this
          exact this
        have n1 := houseBy_ne f1 f3
        have n2 := houseBy_ne (b.so f1) (by rw [b.housed hs]; exact f3)
        have k1 : (houseBy (own e none 0) (mU e sc0 0 [] []) none).isEmpty = false := by simpa using n1
        have k2 : (houseBy (own E0 none 0) (mU E0 sc0 0 [] []) (om d o' none)).isEmpty = false := by simpa using n2
        rw [k1, k2]
theorem SubT.looks (m : SubT t T d h0 o' ρ t0 t1) (b : Emb E0 e d o' pre post us0 us1) (x : Run e most res t) (w : e.Wf []) (y : Way) {cs : List Nat} (h : LookCs y (Lg0.evs t) (hsOf e (Lg0.evs t)) (looksT t) cs) :
    LookCs y (Lg0.evs T) (hsOf E0 (Lg0.evs T)) (looksT (mvT d (psi h0 (nact t0)) ρ t)) cs := by
  rw [looksT_mv]
  exact LookCs.mv _ (fun l hl c q => m.look b x w y (by rw [log_lk]; exact hl) c q) h
/-! room -/
def madeR (E0 : E) (t : List Ev) : Nat := ((madeT t).map fun s => 1 + (usedOf (mU E0 sc0 0 [] []) s).length).sum
def tiedO (E0 : E) (o : Option Nat) : Nat := 1 + (sitesBy (own E0 none 0) o).length
def sharedO (E0 : E) (o : Option Nat) : Nat := hsz (houseBy (own E0 none 0) (mU E0 sc0 0 [] []) o).length
def actsR (E0 : E) (g : E → Option Nat → Nat) (t : List Ev) : Nat := ((actsT t).map fun p => g E0 (some p.1)).sum
theorem madeR_app (E0 : E) (t u : List Ev) : madeR E0 (t ++ u) = madeR E0 t + madeR E0 u := by unfold madeR; rw [madeT_app, List.map_append, List.sum_append]
theorem actsR_app (E0 : E) (g : E → Option Nat → Nat) (t u : List Ev) : actsR E0 g (t ++ u) = actsR E0 g t + actsR E0 g u := by unfold actsR; rw [actsT_app, List.map_append, List.sum_append]
theorem madeR_mv (b : Emb E0 e d o' pre post us0 us1) (x : Run e most res t) (w : e.Wf []) (ψ : Nat → Nat) : madeR E0 (mvT d ψ ρ t) = madeR e t := by
  unfold madeR
  rw [madeT_mv, List.map_map]
  congr 1
  refine List.map_congr_left fun s hs => ?_
  show 1 + (usedOf _ (s + d)).length = _
  rw [b.used (x.made_lt w hs), List.length_map]
theorem mem_acts {p : Nat × Nat} (h : p ∈ actsT t) : some p.1 ∈ (Lg0.evs t).ow := by
  rw [log_ow]
  exact List.mem_cons_of_mem _ (List.mem_map.mpr ⟨p, h, rfl⟩)
theorem actsR_tied (b : Emb E0 e d o' pre post us0 us1) (x : Run e most res t) (w : e.Wf []) (ψ : Nat → Nat) : actsR E0 tiedO (mvT d ψ ρ t) = actsR e tiedO t := by
  unfold actsR
  rw [actsT_mv, List.map_map]
  congr 1
  refine List.map_congr_left fun p hp => ?_
  show 1 + (sitesBy _ (some (p.1 + d))).length = 1 + _
  rw [b.sitesF (x.fun_lt w (mem_acts hp)), List.length_map]
theorem actsR_shared (b : Emb E0 e d o' pre post us0 us1) (x : Run e most res t) (w : e.Wf []) (ψ : Nat → Nat) : actsR E0 sharedO (mvT d ψ ρ t) = actsR e sharedO t := by
  unfold actsR
  rw [actsT_mv, List.map_map]
  congr 1
  refine List.map_congr_left fun p hp => ?_
  show sharedO E0 (some (p.1 + d)) = sharedO e (some p.1)
  unfold sharedO
  rw [b.houseF (x.fun_lt w (mem_acts hp)), List.length_map]
theorem mades_mv (ψ : Nat → Nat) : (madeT (mvT d ψ ρ t)).length = (madeT t).length := by rw [madeT_mv, List.length_map]
end
theorem roomN_flat (E0 : E) (t : List Ev) : roomN .flat E0 t = madeR E0 t := rfl
theorem roomN_tied (E0 : E) (t : List Ev) : roomN .tied E0 t = 2 * (madeT t).length + (tiedO E0 none + actsR E0 tiedO t) := by
  unfold roomN actsR
  rw [log_ow]
  simp only [List.map_cons, List.sum_cons, List.map_map]
  rfl
theorem roomN_shared (E0 : E) (t : List Ev) : roomN .shared E0 t = 2 * (madeT t).length + (sharedO E0 none + actsR E0 sharedO t) := by
  unfold roomN actsR
  rw [log_ow]
  simp only [List.map_cons, List.sum_cons, List.map_map]
  rfl
end
end EW

namespace EW
/-! ### how a run ends -/
inductive Oc where
  | num (n : Nat)
  | fn (s : Nat)
  | out (o : Out)
  deriving DecidableEq
def Res.oc : Res → Oc
  | .val (.int n) => .num n
  | .val (.clo _ _ s _ _) => .fn s
  | .out o => .out o
def Oc.later (d : Nat) : Oc → Oc
  | .num n => .num n
  | .fn s => .fn (s + d)
  | .out o => .out o
theorem oc_mv {d : Nat} {ψ : Nat → Nat} {ρ : Env} (r : Res) : (Res.mv d ψ ρ r).oc = r.oc.later d := by
  cases r with
  | out o => rfl
  | val v => cases v <;> rfl
theorem oc_out {r : Res} {o : Out} (h : r.oc = .out o) : r = .out o := by
  cases r with
  | out p => cases h; rfl
  | val v => cases v <;> cases h
theorem oc_ne {r : Res} {o : Out} (h : r.oc ≠ .out o) : r ≠ .out o := fun z => h (by rw [z]; rfl)
theorem own_mem : ∀ (e : E) (o : Option Nat) (n f : Nat), some f ∈ own e o n → o = some f ∨ (n ≤ f ∧ f < n + e.ns)
  | .num _, _, _, _, h => nomatch h
  | .name _, _, _, _, h => nomatch h
  | .plus a b, o, n, f, h => by
    simp only [own, List.mem_append] at h
    simp only [E.ns]
    rcases h with h | h
    · rcases own_mem a o n f h with q | q
      · exact .inl q
      · right; omega
    · rcases own_mem b o _ f h with q | q
      · exact .inl q
      · right; omega
  | .lt _ a b, o, n, f, h => by
    simp only [own, List.mem_append, List.mem_cons] at h
    simp only [E.ns]
    rcases h with h | h | h
    · exact .inl h.symm
    · rcases own_mem a o _ f h with q | q
      · exact .inl q
      · right; omega
    · rcases own_mem b o _ f h with q | q
      · exact .inl q
      · right; omega
  | .fn _ b, o, n, f, h => by
    simp only [own, List.mem_cons] at h
    simp only [E.ns]
    rcases h with h | h
    · cases h; right; omega
    · rcases own_mem b _ _ f h with q | q
      · cases q; right; omega
      · right; omega
  | .call a b, o, n, f, h => by
    simp only [own, List.mem_append] at h
    simp only [E.ns]
    rcases h with h | h
    · rcases own_mem a o n f h with q | q
      · exact .inl q
      · right; omega
    · rcases own_mem b o _ f h with q | q
      · exact .inl q
      · right; omega
  | .ite c a b, o, n, f, h => by
    simp only [own, List.mem_append] at h
    simp only [E.ns]
    rcases h with h | h | h
    · rcases own_mem c o n f h with q | q
      · exact .inl q
      · right; omega
    · rcases own_mem a o _ f h with q | q
      · exact .inl q
      · right; omega
    · rcases own_mem b o _ f h with q | q
      · exact .inl q
      · right; omega
theorem shU_zero (us : Us) : shU 0 us = us := by
  unfold shU
  conv => rhs; rw [← List.map_id us]
  refine List.map_congr_left fun u _ => ?_
  show (u.1 + 0, u.2.map fun s => s + 0) = u
  simp
theorem shU_key {d : Nat} {us : Us} {N : Nat} (h : ∀ u ∈ us, u.1 < N) : ∀ u ∈ shU d us, d ≤ u.1 ∧ u.1 < d + N := fun u hu => by
  obtain ⟨x, hx, rfl⟩ := List.mem_map.mp hu
  have := h x hx
  show d ≤ x.1 + d ∧ x.1 + d < d + N
  omega
theorem shU_mem {d : Nat} {us : Us} {N : Nat} (h : ∀ u ∈ us, ∀ s ∈ u.2, s < N) : ∀ u ∈ shU d us, ∀ s ∈ u.2, d ≤ s ∧ s < d + N := fun u hu s hs => by
  obtain ⟨x, hx, rfl⟩ := List.mem_map.mp hu
  obtain ⟨z, hz, rfl⟩ := List.mem_map.mp (show s ∈ x.2.map fun s => s + d from hs)
  have := h x hx z hz
  omega
/-- a program at d behind others -/
theorem mU_after {e : E} (d : Nat) (us0 : Us) (w : e.Wf []) (h : ∀ u ∈ us0, u.1 ≤ d) (c : Sc) : mU e c d [] us0 = us0 ++ shU d (mU e sc0 0 [] []) := mU_at w (fun _ z => nomatch z) h
theorem emb_self (e : E) : Emb e e 0 none [] [] [] [] where
  own := by rw [← own_at, List.append_nil]; rfl
  len := rfl
  up := fun _ z => nomatch z
  out := fun _ _ _ => ⟨(fun z => nomatch z), (fun z => nomatch z)⟩
  us := by rw [shU_zero, List.append_nil]; rfl
  keys := fun _ z => nomatch z
section
variable {a b : E}
theorem mU_plus (w : b.Wf []) : mU (.plus a b) sc0 0 [] [] = mU a sc0 0 [] [] ++ shU a.ns (mU b sc0 0 [] []) := by
  show mU b sc0 (0 + a.ns) [] (mU a sc0 0 [] []) = _
  rw [Nat.zero_add]
  exact mU_after _ _ w (fun u hu => Nat.le_of_lt (mU0_key a u hu)) _
theorem emb_plus1 (w : b.Wf []) : Emb (.plus a b) a 0 none [] (own b none a.ns) [] (shU a.ns (mU b sc0 0 [] [])) where
  own := by
    show own a none 0 ++ own b none (0 + a.ns) = _
    rw [← own_at, Nat.zero_add] <;> rfl
  len := rfl
  up := fun _ z => nomatch z
  out := fun f _ h2 => ⟨(fun z => nomatch z), (fun z => by
    rcases own_mem b none _ f z with q | q
    · cases q
    · omega)⟩
  us := by rw [mU_plus w, shU_zero]; rfl
  keys := fun u hu => ⟨by have := (shU_key (d := a.ns) (mU0_key b) u hu).1; omega, fun s hs => by have := (shU_mem (d := a.ns) (mU0_lt b) u hu s hs).1; omega⟩
theorem emb_plus2 (w : b.Wf []) : Emb (.plus a b) b a.ns none (own a none 0) [] (mU a sc0 0 [] []) [] where
  own := by
    show own a none 0 ++ own b none (0 + a.ns) = _
    rw [Nat.zero_add, own_at a.ns none b, List.append_nil]
  len := own_length _ _ _
  up := fun _ z => nomatch z
  out := fun f h1 _ => ⟨(fun z => by
    rcases own_mem a none _ f z with q | q
    · cases q
    · omega), (fun z => nomatch z)⟩
  us := by rw [mU_plus w, List.append_nil]
  keys := fun u hu => by
    rw [List.append_nil] at hu
    exact ⟨.inl (mU0_key a u hu), fun s hs => .inl (mU0_lt a u hu s hs)⟩
mutual
theorem Val.mv0 {ψ : Nat → Nat} (h : ∀ i, ψ i = i) : ∀ v : Val, Val.mv 0 ψ .nil v = v
  | .int _ => rfl
  | .clo k b s r y => by
    show Val.clo k b (s + 0) (Env.mv 0 ψ .nil r) (ψ y) = _
    rw [Env.mv0 h r, h y]
    rfl
theorem Env.mv0 {ψ : Nat → Nat} (h : ∀ i, ψ i = i) : ∀ r : Env, Env.mv 0 ψ .nil r = r
  | .nil => rfl
  | .cons k a s v r => by
    show Env.cons k (ψ a) (s + 0) (Val.mv 0 ψ .nil v) (Env.mv 0 ψ .nil r) = _
    rw [Val.mv0 h v, Env.mv0 h r, h a]
    rfl
end
theorem mvT0 {ψ : Nat → Nat} (h : ∀ i, ψ i = i) (t : List Ev) : mvT 0 ψ .nil t = t := by
  unfold mvT
  conv => rhs; rw [← List.map_id t]
  refine List.map_congr_left fun x _ => ?_
  cases x with
  | act s y => show Ev.act (s + 0) (ψ y) = _; rw [h y]; rfl
  | bind a s v => show Ev.bind (ψ a) (s + 0) (Val.mv 0 ψ .nil v) = _; rw [h a, Val.mv0 h]; rfl
  | look x y z => show Ev.look (ψ x) (ψ y) (z + 0) = _; rw [h x, h y]; rfl
  | made s => rfl
theorem psi_id (i : Nat) : psi 0 0 i = i := by unfold psi; split <;> omega
/-- what is done first -/
theorem sub_first (t u : List Ev) : SubT t (t ++ u) 0 0 none .nil [] u where
  eq := by rw [show nact [] = 0 from rfl, mvT0 psi_id]; rfl
  le := Nat.zero_le _
  ow := by rw [log_ow]; rfl
/-- what is done behind -/
theorem sub_behind (d : Nat) (t0 t : List Ev) : SubT t (t0 ++ mvT d (psi 0 (nact t0)) .nil t) d 0 none .nil t0 [] where
  eq := by rw [List.append_nil]
  le := Nat.zero_le _
  ow := by rw [log_ow]; rfl
theorem Run.le {e : E} {most : Nat} {r : Res} {t : List Ev} (x : Run e most r t) : nact t ≤ most := R.le x
/-- a program's run, done behind t0 by sites from d on, in the whole program's activation -/
theorem Run.behind {e : E} {most : Nat} {r : Res} {t : List Ev} (x : Run e most r t) (d : Nat) (t0 : List Ev) (ρ : Env) : R e d ρ 0 (1 + nact t0) most (Res.mv d (psi 0 (nact t0)) ρ r) (mvT d (psi 0 (nact t0)) ρ t) := by
  have := R.mv (d := d) (ψ := psi 0 (nact t0)) (ρ := ρ) (c := nact t0) (fun i h => psi_pos h) x (Nat.le_refl 1)
  rw [Nat.zero_add] at this
  exact this
def plusOc : Oc → Oc → Oc
  | .out o, _ => .out o
  | _, .out o => .out o
  | .num i, .num j => .num ((i + j) % 1000)
  | _, _ => .out .number
theorem Run.det {e : E} {most : Nat} {r r' : Res} {t t' : List Ev} (x : Run e most r t) (y : Run e most r' t') : r = r' ∧ t = t' := R.det x y
theorem plus_out {m m' : Nat} {r1 : Res} {t1 : List Ev} {o : Out} (x : Run a m r1 t1) (h1 : r1 = .out o) (ho : o ≠ .still) (hm : nact t1 ≤ m') : Run (.plus a b) m' (.out o) t1 := by
  subst h1
  exact R.plusS1 (R.more x (fun z => ho (Res.out.inj z)) _ hm)
theorem plus_val {m1 m2 m : Nat} {r2 : Res} {t1 t2 : List Ev} {v : Val} (x : Run a m1 (.val v) t1) (y : Run b m2 r2 t2) (h2 : r2 ≠ .out .still) (hm : nact t1 + nact t2 ≤ m) :
    ∃ r, Run (.plus a b) m r (t1 ++ mvT a.ns (psi 0 (nact t1)) .nil t2) ∧ r.oc = plusOc (Res.val v).oc r2.oc := by
  have x' := R.more x (fun z => nomatch z) m (by omega)
  have y0 := Run.behind y a.ns t1 .nil
  have hr : Res.mv a.ns (psi 0 (nact t1)) .nil r2 ≠ .out .still := by
    cases r2 with
    | out o => exact fun z => h2 (by cases z; rfl)
    | val w => exact fun z => nomatch z
  have y' := R.more y0 hr (m - nact t1) (by rw [nact_mv]; omega)
  have y'' := y'.cast (Nat.zero_add _).symm rfl rfl rfl rfl rfl rfl
  cases r2 with
  | out o =>
    refine ⟨_, R.plusS2 x' y'', ?_⟩
    cases v <;> rfl
  | val w =>
    cases v with
    | clo k c s q z =>
      refine ⟨_, R.plusF x' y'' (.inl ⟨_, _, _, _, _, rfl⟩), ?_⟩
      cases w <;> rfl
    | int i =>
      cases w with
      | clo k c s q z => exact ⟨_, R.plusF x' y'' (.inr ⟨_, _, _, _, _, rfl⟩), rfl⟩
      | int j => exact ⟨_, R.plus x' y'', rfl⟩
/-! the law's numbers -/
section
variable {m1 m2 m : Nat} {r1 r2 r : Res} {t1 t2 t : List Ev}
theorem plus_oc (x : Run a m1 r1 t1) (y : Run b m2 r2 t2) (z : Run (.plus a b) m r t) (h1 : r1.oc ≠ .out .still) (h2 : r2.oc ≠ .out .still) (hm : m1 + m2 ≤ m) : r.oc = plusOc r1.oc r2.oc := by
  have l1 := x.le
  have l2 := y.le
  cases r1 with
  | out o =>
    have z' := plus_out (b := b) (m' := m) x rfl (fun q => h1 (by rw [q]; rfl)) (by omega)
    rw [(z.det z').1]
    cases r2.oc <;> rfl
  | val v =>
    obtain ⟨r', z', e⟩ := plus_val x y (oc_ne h2) (m := m) (by omega)
    rw [(z.det z').1]
    exact e
theorem plus_t (x : Run a m1 r1 t1) (y : Run b m2 r2 t2) (z : Run (.plus a b) m r t) (h1 : ∀ o, r1.oc ≠ .out o) (h2 : r2.oc ≠ .out .still) (hm : m1 + m2 ≤ m) : t = t1 ++ mvT a.ns (psi 0 (nact t1)) .nil t2 := by
  have l1 := x.le
  have l2 := y.le
  cases r1 with
  | out o => exact absurd rfl (h1 o)
  | val v =>
    obtain ⟨r', z', e⟩ := plus_val x y (oc_ne h2) (m := m) (by omega)
    exact (z.det z').2
theorem plus_tO (x : Run a m1 r1 t1) (z : Run (.plus a b) m r t) {o : Out} (h1 : r1.oc = .out o) (ho : o ≠ .still) (hm : m1 ≤ m) : t = t1 := by
  have l1 := x.le
  have z' := plus_out (b := b) (m' := m) x (oc_out h1) ho (by omega)
  exact (z.det z').2
theorem plus_looked (wa : a.Wf []) (wb : b.Wf []) (x : Run a m1 r1 t1) (y : Run b m2 r2 t2) (z : Run (.plus a b) m r t) (h1 : ∀ o, r1.oc ≠ .out o) (h2 : r2.oc ≠ .out .still) (hm : m1 + m2 ≤ m) {w : Way} {n1 n2 n : Nat}
    (l1 : Looked w a t1 n1) (l2 : Looked w b t2 n2) (l : Looked w (.plus a b) t n) : n = n1 + n2 := by
  have et := plus_t x y z h1 h2 hm
  obtain ⟨cs1, q1, rfl⟩ := l1
  obtain ⟨cs2, q2, rfl⟩ := l2
  rw [log_lk] at q1 q2
  have s1 := sub_first t1 (mvT a.ns (psi 0 (nact t1)) .nil t2)
  have s2 := sub_behind a.ns t1 t2
  have p1 := s1.looks (emb_plus1 wb) x wa w q1
  have p2 := s2.looks (emb_plus2 wb) y wb w q2
  rw [show nact [] = 0 from rfl, mvT0 psi_id] at p1
  have p := p1.app p2
  rw [← looksT_app] at p
  rw [← et] at p
  refine Looked.det l ⟨_, by rw [log_lk]; exact p, by rw [List.sum_append]⟩
theorem plus_lookedO (wa : a.Wf []) (wb : b.Wf []) (x : Run a m1 r1 t1) (z : Run (.plus a b) m r t) {o : Out} (h1 : r1.oc = .out o) (ho : o ≠ .still) (hm : m1 ≤ m) {w : Way} {n1 n : Nat}
    (l1 : Looked w a t1 n1) (l : Looked w (.plus a b) t n) : n = n1 := by
  have et := plus_tO x z h1 ho hm
  obtain ⟨cs1, q1, rfl⟩ := l1
  rw [log_lk] at q1
  have p1 := (sub_first t1 []).looks (emb_plus1 wb) x wa w q1
  rw [show nact [] = 0 from rfl, mvT0 psi_id, List.append_nil] at p1
  rw [← et] at p1
  exact Looked.det l ⟨_, by rw [log_lk]; exact p1, rfl⟩
theorem om_none {o' : Option Nat} {d : Nat} : om d o' none = o' := rfl
theorem plus_tied0 (wb : b.Wf []) : tiedO (.plus a b) none + 1 = tiedO a none + tiedO b none := by
  unfold tiedO
  have h := (emb_plus2 (a := a) wb).sites none
  rw [om_none] at h
  rw [h]
  simp only [List.length_append, List.length_map]
  have : sitesBy ([] : List (Option Nat)) none = [] := rfl
  rw [this]
  simp
  omega
theorem house_none2 (wb : b.Wf []) : (houseBy (own (.plus a b) none 0) (mU (.plus a b) sc0 0 [] []) none).length = (houseBy (own a none 0) (mU a sc0 0 [] []) none).length + (houseBy (own b none 0) (mU b sc0 0 [] []) none).length := by
  have m1 := emb_plus1 (a := a) wb
  have m2 := emb_plus2 (a := a) wb
  have h := m2.sites none
  rw [om_none] at h
  have f1 := m1.filt none
  have f2 := m2.filt none
  have e0 : (sitesBy (own a none 0) none).map (fun s => s + 0) = sitesBy (own a none 0) none := List.map_id _
  rw [e0] at f1
  unfold houseBy at f1 f2 ⊢
  rw [h, List.filter_append, List.filter_append, f1, f2]
  simp [sitesBy]
theorem plus_rooms (wa : a.Wf []) (wb : b.Wf []) (x : Run a m1 r1 t1) (y : Run b m2 r2 t2) (z : Run (.plus a b) m r t) (h1 : ∀ o, r1.oc ≠ .out o) (h2 : r2.oc ≠ .out .still) (hm : m1 + m2 ≤ m) :
    roomN .flat (.plus a b) t = roomN .flat a t1 + roomN .flat b t2 ∧ roomN .tied (.plus a b) t + 1 = roomN .tied a t1 + roomN .tied b t2 ∧
    (roomN .shared a t1 + roomN .shared b t2 = roomN .shared (.plus a b) t ∨ roomN .shared a t1 + roomN .shared b t2 = roomN .shared (.plus a b) t + 1) := by
  have et := plus_t x y z h1 h2 hm
  have b1 := emb_plus1 (a := a) wb
  have b2 := emb_plus2 (a := a) wb
  have e1 : mvT 0 (psi 0 0) .nil t1 = t1 := mvT0 psi_id t1
  have f1 := madeR_mv (ρ := .nil) b1 x wa (psi 0 0)
  have f2 := madeR_mv (ρ := .nil) b2 y wb (psi 0 (nact t1))
  have g1 := actsR_tied (ρ := .nil) b1 x wa (psi 0 0)
  have g2 := actsR_tied (ρ := .nil) b2 y wb (psi 0 (nact t1))
  have k1 := actsR_shared (ρ := .nil) b1 x wa (psi 0 0)
  have k2 := actsR_shared (ρ := .nil) b2 y wb (psi 0 (nact t1))
  rw [e1] at f1 g1 k1
  have hl : (madeT t).length = (madeT t1).length + (madeT t2).length := by rw [et, madeT_app, List.length_append, mades_mv]
  have t0 := plus_tied0 (a := a) wb
  have s0 := house_none2 (a := a) wb
  refine ⟨?_, ?_, ?_⟩
  · rw [roomN_flat, roomN_flat, roomN_flat, et, madeR_app, f1, f2]
  · rw [roomN_tied, roomN_tied, roomN_tied, hl, et, actsR_app, g1, g2]
    omega
  · rw [roomN_shared, roomN_shared, roomN_shared, hl, et, actsR_app, k1, k2]
    unfold sharedO
    rw [s0]
    generalize (houseBy (own a none 0) (mU a sc0 0 [] []) none).length = p
    generalize (houseBy (own b none 0) (mU b sc0 0 [] []) none).length = q
    unfold hsz
    split <;> split <;> split <;> omega
end
end
end EW

namespace EW
/-! bindings in order, last looks -/
abbrev Bd := Nat × Nat
def leB (p q : Bd) : Prop := p.1 < q.1 ∨ (p.1 = q.1 ∧ p.2 ≤ q.2)
instance (p q : Bd) : Decidable (leB p q) := inferInstanceAs (Decidable (_ ∨ _))
theorem leB_total (p q : Bd) : leB p q ∨ leB q p := by unfold leB; omega
theorem leB_trans {p q r : Bd} (h : leB p q) (g : leB q r) : leB p r := by unfold leB at *; omega
theorem leB_anti {p q : Bd} (h : leB p q) (g : leB q p) : p = q := by
  unfold leB at *
  exact Prod.ext (by omega) (by omega)
def srtB (l : List Bd) : List Bd := l.mergeSort fun a b => decide (leB a b)
theorem srtB_perm (l : List Bd) : (srtB l).Perm l := List.mergeSort_perm _ _
theorem srtB_pair (l : List Bd) : (srtB l).Pairwise leB := by
  have h := List.pairwise_mergeSort (le := fun a b : Bd => decide (leB a b)) (fun a b c h1 h2 => decide_eq_true (leB_trans (of_decide_eq_true h1) (of_decide_eq_true h2))) (fun a b => by
    rcases leB_total a b with h | h
    · rw [decide_eq_true h]; rfl
    · rw [decide_eq_true h]; simp) l
  exact h.imp fun h => of_decide_eq_true h
theorem srtB_uniq {l m : List Bd} (p : m.Perm l) (s : m.Pairwise leB) : m = srtB l :=
  List.Perm.eq_of_pairwise (le := leB) (fun a b _ _ h1 h2 => leB_anti h1 h2) s (srtB_pair l) (p.trans (srtB_perm l).symm)
theorem srtB_map {f : Bd → Bd} (hf : ∀ p q, leB p q → leB (f p) (f q)) (l : List Bd) : srtB (l.map f) = (srtB l).map f :=
  (srtB_uniq ((srtB_perm l).map f) ((srtB_pair l).map f fun _ _ h => hf _ _ h)).symm
/-- the number of the last look at a binding -/
def lastL (l : List (Nat × Nat × Nat)) (b : Bd) : Option Nat := (l.foldl (fun (p : Nat × Option Nat) x => (p.1 + 1, if x.2 = b then some p.1 else p.2)) (0, none)).2
theorem lastL_fst (l : List (Nat × Nat × Nat)) (b : Bd) : ∀ p : Nat × Option Nat, (l.foldl (fun (p : Nat × Option Nat) x => (p.1 + 1, if x.2 = b then some p.1 else p.2)) p).1 = p.1 + l.length := by
  induction l with
  | nil => intro p; rfl
  | cons x l ih => intro p; rw [List.foldl_cons, ih, List.length_cons]; omega
theorem lastL_snoc (l : List (Nat × Nat × Nat)) (x : Nat × Nat × Nat) (b : Bd) : lastL (l ++ [x]) b = if x.2 = b then some l.length else lastL l b := by
  unfold lastL
  rw [List.foldl_append]
  show (if x.2 = b then some (l.foldl _ (0, none)).1 else (l.foldl _ (0, none)).2) = _
  rw [lastL_fst, Nat.zero_add]
theorem lastL_nil (b : Bd) : lastL [] b = none := rfl
/-- what lasts tells -/
def lastRows (t : List Ev) : List (Bd × Option Nat) := (srtB ((bindsT t).map (·.1))).map fun b => (b, lastL (looksT t) b)
theorem lastRows_length (t : List Ev) : (lastRows t).length = (bindsT t).length := by unfold lastRows; rw [List.length_map, (srtB_perm _).length_eq, List.length_map]
end EW

namespace EW
/-! ### sums over a run within another -/
theorem LookC.self {y : Way} {L : Lg} {hs : Nat → Bool} {h : Nat} : LookC y L hs h h 1 := .inl ⟨rfl, rfl⟩
section
variable {t T t0 t1 : List Ev} {d h0 : Nat} {o' : Option Nat} {ρ : Env} {E0 e : E} {pre post : List (Option Nat)} {us0 us1 : Us} {most : Nat} {res : Res}
theorem SubT.looked (m : SubT t T d h0 o' ρ t0 t1) (b : Emb E0 e d o' pre post us0 us1) (x : Run e most res t) (w : e.Wf []) (y : Way) {n : Nat} (h : Looked y e t n) {c0 c1 : List Nat}
    (q0 : LookCs y (Lg0.evs T) (hsOf E0 (Lg0.evs T)) (looksT t0) c0) (q1 : LookCs y (Lg0.evs T) (hsOf E0 (Lg0.evs T)) (looksT t1) c1) : Looked y E0 T (c0.sum + n + c1.sum) := by
  obtain ⟨cs, q, rfl⟩ := h
  rw [log_lk] at q
  have p := m.looks b x w y q
  have p2 := q0.app (p.app q1)
  rw [← looksT_app, ← looksT_app, ← m.eq] at p2
  refine ⟨c0 ++ (cs ++ c1), by rw [log_lk]; exact p2, ?_⟩
  rw [List.sum_append, List.sum_append]
  omega
theorem SubT.made (m : SubT t T d h0 o' ρ t0 t1) : (madeT T).length = (madeT t0).length + (madeT t).length + (madeT t1).length := by
  rw [m.eq, madeT_app, madeT_app, List.length_append, List.length_append, mades_mv]
  omega
theorem SubT.flat (m : SubT t T d h0 o' ρ t0 t1) (b : Emb E0 e d o' pre post us0 us1) (x : Run e most res t) (w : e.Wf []) : roomN .flat E0 T = madeR E0 t0 + roomN .flat e t + madeR E0 t1 := by
  rw [roomN_flat, roomN_flat, m.eq, madeR_app, madeR_app, madeR_mv b x w]
  omega
theorem SubT.tied (m : SubT t T d h0 o' ρ t0 t1) (b : Emb E0 e d o' pre post us0 us1) (x : Run e most res t) (w : e.Wf []) :
    roomN .tied E0 T + tiedO e none = 2 * (madeT t0).length + 2 * (madeT t1).length + roomN .tied e t + tiedO E0 none + actsR E0 tiedO t0 + actsR E0 tiedO t1 := by
  rw [roomN_tied, roomN_tied, m.made, m.eq, actsR_app, actsR_app, actsR_tied b x w]
  omega
theorem SubT.shared (m : SubT t T d h0 o' ρ t0 t1) (b : Emb E0 e d o' pre post us0 us1) (x : Run e most res t) (w : e.Wf []) :
    roomN .shared E0 T + sharedO e none = 2 * (madeT t0).length + 2 * (madeT t1).length + roomN .shared e t + sharedO E0 none + actsR E0 sharedO t0 + actsR E0 sharedO t1 := by
  rw [roomN_shared, roomN_shared, m.made, m.eq, actsR_app, actsR_app, actsR_shared b x w]
  omega
theorem SubT.binds (m : SubT t T d h0 o' ρ t0 t1) : (bindsT T).length = (bindsT t0).length + (bindsT t).length + (bindsT t1).length := by
  rw [m.eq, bindsT_app, bindsT_app, List.length_append, List.length_append]
  have := congrArg List.length (bindsT_mv (d := d) (ψ := psi h0 (nact t0)) (ρ := ρ) t)
  rw [List.length_map, List.length_map] at this
  omega
end
theorem bindsT_len {d : Nat} {ψ : Nat → Nat} {ρ : Env} (t : List Ev) : (bindsT (mvT d ψ ρ t)).length = (bindsT t).length := by
  have := congrArg List.length (bindsT_mv (d := d) (ψ := ψ) (ρ := ρ) t)
  rw [List.length_map, List.length_map] at this
  exact this
/-- a run that begins within h0 behind t0 -/
theorem Run.within {e : E} {most : Nat} {r : Res} {t : List Ev} (x : Run e most r t) (d h0 : Nat) (t0 : List Ev) (ρ : Env) : R e d ρ h0 (1 + nact t0) most (Res.mv d (psi h0 (nact t0)) ρ r) (mvT d (psi h0 (nact t0)) ρ t) := by
  have := R.mv (d := d) (ψ := psi h0 (nact t0)) (ρ := ρ) (c := nact t0) (fun i h => psi_pos h) x (Nat.le_refl 1)
  rw [Nat.zero_add, psi_zero] at this
  exact this
theorem mv_still {d : Nat} {ψ : Nat → Nat} {ρ : Env} {r : Res} (h : r ≠ .out .still) : Res.mv d ψ ρ r ≠ .out .still := by
  cases r with
  | out o => exact fun z => h (by cases z; rfl)
  | val w => exact fun z => nomatch z
end EW

namespace EW
/-! ### programs with faults put together -/
theorem Emb.like {E0 E1 e : E} {d : Nat} {o' : Option Nat} {pre post : List (Option Nat)} {us0 us1 : Us} (m : Emb E0 e d o' pre post us0 us1) (h1 : EW.own E1 none 0 = EW.own E0 none 0) (h2 : mU E1 sc0 0 [] [] = mU E0 sc0 0 [] []) : Emb E1 e d o' pre post us0 us1 :=
  ⟨h1.trans m.own, m.len, m.up, m.out, h2.trans m.us, m.keys⟩
/-- what stands ahead stays -/
theorem mU_pre : ∀ (e : E) (c : Sc) (n : Nat) (ar : List Nat) (us0 us : Us), (∀ f ∈ ar, ∀ u ∈ us0, u.1 ≠ f) → (∀ u ∈ us0, u.1 < n) → mU e c n ar (us0 ++ us) = us0 ++ mU e c n ar us
  | .num _, _, _, _, _, _, _, _ => rfl
  | .name k, c, n, ar, us0, us, h, _ => by
    show look1 _ _ _ = us0 ++ look1 _ _ _
    rw [look1_app]
    congr 1
    unfold look1
    conv => rhs; rw [← List.map_id us0]
    refine List.map_congr_left fun u hu => ?_
    rw [if_neg (fun z => h _ z.1 u hu rfl)]
    rfl
  | .plus a b, c, n, ar, us0, us, h, l => by
    simp only [mU]
    rw [mU_pre a c n ar us0 us h l, mU_pre b c _ ar us0 _ h fun u hu => by have := l u hu; omega]
  | .lt k a b, c, n, ar, us0, us, h, l => by
    simp only [mU]
    rw [mU_pre a c _ ar us0 us h (fun u hu => by have := l u hu; omega), mU_pre b _ _ ar us0 _ h fun u hu => by have := l u hu; omega]
  | .fn k b, c, n, ar, us0, us, h, l => by
    simp only [mU]
    rw [List.append_assoc, mU_pre b _ _ _ us0 _ (fun f hf u hu => by
      rcases List.mem_append.mp hf with q | q
      · exact h f q u hu
      · rw [List.mem_singleton.mp q]; have := l u hu; omega) fun u hu => by have := l u hu; omega]
  | .call a b, c, n, ar, us0, us, h, l => by
    simp only [mU]
    rw [mU_pre a c n ar us0 us h l, mU_pre b c _ ar us0 _ h fun u hu => by have := l u hu; omega]
  | .ite q a b, c, n, ar, us0, us, h, l => by
    simp only [mU]
    rw [mU_pre q c n ar us0 us h l, mU_pre a c _ ar us0 _ h (fun u hu => by have := l u hu; omega), mU_pre b c _ ar us0 _ h fun u hu => by have := l u hu; omega]
theorem mU_keyrange (e : E) (c : Sc) (n : Nat) : ∀ u ∈ mU e c n [] [], n ≤ u.1 ∧ u.1 < n + e.ns := fun u hu => by
  have h : u.1 ∈ (mU e c n [] []).map fun u => u.1 := List.mem_map.mpr ⟨u, hu, rfl⟩
  rw [mU_keys] at h
  exact funs_range e n _ h
/-- the sites that an expression's funs use: its own, or in scope -/
theorem mU_in : ∀ (e : E) (c : Sc) (n : Nat) (ar : List Nat) (us : Us) (S : Nat → Prop), (∀ k s, c k = some s → S s) → (∀ s, n ≤ s → s < n + e.ns → S s) → S 0 → (∀ u ∈ us, ∀ s ∈ u.2, S s) → ∀ u ∈ mU e c n ar us, ∀ s ∈ u.2, S s
  | .num _, _, _, _, _, _, _, _, _, h => h
  | .name k, c, n, ar, us, S, h1, _, h0, h => by
    intro u hu s hs
    obtain ⟨x, hx, rfl⟩ := List.mem_map.mp hu
    have hg : S ((c k).getD 0) := by
      cases q : c k with
      | none => exact h0
      | some s => exact h1 k s q
    split at hs
    · rcases List.mem_append.mp hs with z | z
      · exact h x hx s z
      · rw [List.mem_singleton.mp z]; exact hg
    · exact h x hx s hs
  | .plus a b, c, n, ar, us, S, h1, h2, h0, h => mU_in b c _ ar _ S h1 (fun s q1 q2 => h2 s (by omega) (by simp only [E.ns]; omega)) h0 (mU_in a c n ar us S h1 (fun s q1 q2 => h2 s (by omega) (by simp only [E.ns]; omega)) h0 h)
  | .lt k a b, c, n, ar, us, S, h1, h2, h0, h => mU_in b _ _ ar _ S (fun j s q => by
      unfold Sc.set at q
      by_cases z : j = k
      · rw [if_pos z] at q; cases q; exact h2 n (Nat.le_refl _) (by simp only [E.ns]; omega)
      · rw [if_neg z] at q; exact h1 j s q) (fun s q1 q2 => h2 s (by omega) (by simp only [E.ns]; omega)) h0 (mU_in a c _ ar us S h1 (fun s q1 q2 => h2 s (by omega) (by simp only [E.ns]; omega)) h0 h)
  | .fn k b, c, n, ar, us, S, h1, h2, h0, h => mU_in b _ _ _ _ S (fun j s q => by
      unfold Sc.set at q
      by_cases z : j = k
      · rw [if_pos z] at q; cases q; exact h2 n (Nat.le_refl _) (by simp only [E.ns]; omega)
      · rw [if_neg z] at q; exact h1 j s q) (fun s q1 q2 => h2 s (by omega) (by simp only [E.ns]; omega)) h0 (fun u hu s hs => by
      rcases List.mem_append.mp hu with q | q
      · exact h u q s hs
      · rw [List.mem_singleton.mp q] at hs; cases hs)
  | .call a b, c, n, ar, us, S, h1, h2, h0, h => mU_in b c _ ar _ S h1 (fun s q1 q2 => h2 s (by omega) (by simp only [E.ns]; omega)) h0 (mU_in a c n ar us S h1 (fun s q1 q2 => h2 s (by omega) (by simp only [E.ns]; omega)) h0 h)
  | .ite q a b, c, n, ar, us, S, h1, h2, h0, h => mU_in b c _ ar _ S h1 (fun s q1 q2 => h2 s (by omega) (by simp only [E.ns]; omega)) h0 (mU_in a c _ ar _ S h1 (fun s q1 q2 => h2 s (by omega) (by simp only [E.ns]; omega)) h0 (mU_in q c n ar us S h1 (fun s q1 q2 => h2 s (by omega) (by simp only [E.ns]; omega)) h0 h))
/-- a program that a let binds -/
theorem emb_let1 {k : Nat} {p b : E} (w : p.Wf []) : Emb (.lt k p b) p 1 none [none] (own b none (1 + p.ns)) [] (mU b (sc0.set k 0) (1 + p.ns) [] []) where
  own := by
    show none :: (own p none (0 + 1) ++ own b none (0 + 1 + p.ns)) = _
    rw [Nat.zero_add, own_at 1 none p]
    rfl
  len := rfl
  up := fun _ z => nomatch z
  out := fun f h1 h2 => ⟨(fun z => by rcases List.mem_cons.mp z with z | z <;> cases z), (fun z => by
    rcases own_mem b none _ f z with q | q
    · cases q
    · omega)⟩
  us := by
    show mU b (sc0.set k 0) (0 + 1 + p.ns) [] (mU p sc0 (0 + 1) [] []) = _
    rw [Nat.zero_add, mU_at w (fun _ z => absurd z List.not_mem_nil) (fun _ z => absurd z List.not_mem_nil), List.nil_append]
    have := mU_pre b (sc0.set k 0) (1 + p.ns) [] (shU 1 (mU p sc0 0 [] [])) [] (fun _ z => nomatch z) fun u hu => by have := (shU_key (d := 1) (mU0_key p) u hu).2; omega
    rwa [List.append_nil] at this
  keys := fun u hu => by
    rw [List.nil_append] at hu
    refine ⟨.inr (mU_keyrange b _ _ u hu).1, ?_⟩
    refine mU_in b _ _ [] [] (fun s => s < 1 ∨ 1 + p.ns ≤ s) (fun j s q => ?_) (fun s q _ => .inr q) (.inl (by decide)) (fun _ z => nomatch z) u hu
    unfold Sc.set sc0 at q
    split at q
    · cases q; exact .inl (by decide)
    · cases q
section
variable {p : E}
def maker : E := .fn 0 (.plus (.name 0) (.num 1))
def vM (d : Nat) (ρ : Env) : Val := .clo 0 (.plus (.name 0) (.num 1)) d ρ 0
theorem run_maker {d : Nat} {ρ : Env} {na l : Nat} : R maker d ρ 0 na l (.val (vM d ρ)) [.made d] := .fn
theorem maker_run (m : Nat) : Run maker m (.val (vM 0 .nil)) [.made 0] := .fn
theorem maker_wf : maker.Wf [] := ⟨by decide, ⟨by decide, List.mem_cons_self⟩, by show 1 < 1000; decide⟩
variable {m : Nat} {r : Res} {t : List Ev}
def ftOc : Oc → Out → Oc
  | .out o, _ => .out o
  | _, o => .out o
/-- plus of a function and a program -/
theorem f1 (x : Run p m r t) : ∃ r', Run (.plus maker p) m r' ([.made 0] ++ mvT 1 (psi 0 0) .nil t) ∧ r'.oc = ftOc r.oc .number := by
  have y := Run.behind x 1 [.made 0] .nil
  have y' := y.cast (Nat.zero_add 1).symm rfl rfl rfl (Nat.sub_zero m).symm rfl rfl
  cases r with
  | out o => exact ⟨_, R.plusS2 run_maker y', rfl⟩
  | val v => exact ⟨_, R.plusF run_maker y' (.inl ⟨_, _, _, _, _, rfl⟩), by cases v <;> rfl⟩
theorem f1_looked (w : p.Wf []) (x : Run p m r t) {n : Nat} (h : Looked .flat p t n) : Looked .flat (.plus maker p) ([.made 0] ++ mvT 1 (psi 0 0) .nil t) n := by
  have := (sub_behind 1 [.made 0] t).looked (emb_plus2 (a := maker) w) x w .flat h (c0 := []) (c1 := []) trivial trivial
  rwa [show ([] : List Nat).sum + n + ([] : List Nat).sum = n by simp] at this
theorem f2 (x : Run p m r t) : ∃ r' t', Run (.plus p maker) m r' t' ∧ r'.oc = ftOc r.oc .number ∧ (t' = t ∨ t' = t ++ [.made p.ns]) := by
  cases r with
  | out o => exact ⟨_, _, R.plusS1 x, rfl, .inl rfl⟩
  | val v => exact ⟨_, _, R.plusF x (R.cast run_maker (Nat.zero_add _).symm rfl rfl rfl rfl rfl rfl) (.inr ⟨_, _, _, _, _, rfl⟩), by cases v <;> rfl, .inr rfl⟩
theorem looked_first {E0 : E} {pre post : List (Option Nat)} {us0 us1 : Us} (b : Emb E0 p 0 none pre post us0 us1) (w : p.Wf []) (x : Run p m r t) {y : Way} {n : Nat} (h : Looked y p t n) {u : List Ev} (hu : looksT u = []) : Looked y E0 (t ++ u) n := by
  have := (sub_first t u).looked b x w y h (c0 := []) (c1 := []) trivial (by rw [hu]; trivial)
  rwa [show ([] : List Nat).sum + n + ([] : List Nat).sum = n by simp] at this
theorem f2_looked (w : p.Wf []) (x : Run p m r t) {n : Nat} (h : Looked .flat p t n) {t' : List Ev} (ht : t' = t ∨ t' = t ++ [.made p.ns]) : Looked .flat (.plus p maker) t' n := by
  rcases ht with rfl | rfl
  · have := looked_first (emb_plus1 (a := p) (b := maker) maker_wf) w x h (u := []) rfl
    rwa [List.append_nil] at this
  · exact looked_first (emb_plus1 (a := p) (b := maker) maker_wf) w x h rfl
theorem f3 (x : Run p m r t) : ∃ r', Run (.call (.num 1) p) m r' t ∧ r'.oc = ftOc r.oc .function := by
  have a1 : R (.num 1) 0 .nil 0 1 m (.val (.int 1)) [] := .num
  have y' := R.cast x rfl rfl rfl rfl (Nat.sub_zero m).symm rfl rfl
  cases r with
  | out o => exact ⟨_, R.callS2 a1 y', rfl⟩
  | val v => exact ⟨_, R.callF a1 y', by cases v <;> rfl⟩
theorem f3_looked (w : p.Wf []) (x : Run p m r t) {n : Nat} (h : Looked .flat p t n) : Looked .flat (.call (.num 1) p) t n := by
  have b := (emb_plus2 (a := .num 1) w).like (E1 := .call (.num 1) p) rfl rfl
  have := looked_first b w x h (u := []) rfl
  rwa [List.append_nil] at this
def f4E (p : E) : E := .lt 1 p (.call (.num 2) maker)
theorem f4 (x : Run p m r t) : ∃ r' u, Run (f4E p) m r' (mvT 1 (psi 0 0) .nil t ++ u) ∧ r'.oc = ftOc r.oc .function ∧ looksT u = [] := by
  have y := Run.behind x 1 [] .nil
  have y' := y.cast (Nat.zero_add 1).symm rfl rfl rfl rfl rfl rfl
  cases r with
  | out o => exact ⟨_, [], by rw [List.append_nil]; exact R.ltS y', rfl, rfl⟩
  | val v => exact ⟨_, _, R.lt y' (R.callF .num run_maker), by cases v <;> rfl, rfl⟩
theorem f4_looked (w : p.Wf []) (x : Run p m r t) {n : Nat} (h : Looked .flat p t n) {u : List Ev} (hu : looksT u = []) : Looked .flat (f4E p) (mvT 1 (psi 0 0) .nil t ++ u) n := by
  have s : SubT t (mvT 1 (psi 0 0) .nil t ++ u) 1 0 none .nil [] u := ⟨rfl, Nat.zero_le _, by rw [log_ow]; rfl⟩
  have := s.looked (emb_let1 (k := 1) (b := .call (.num 2) maker) w) x w .flat h (c0 := []) (c1 := []) trivial (by rw [hu]; trivial)
  rwa [show ([] : List Nat).sum + n + ([] : List Nat).sum = n by simp] at this
/-- a call of the maker -/
theorem f5 {v : Val} (x : Run p m (.val v) t) (M : Nat) (h : nact t < M) : ∃ r' t', Run (.call maker p) M r' t' ∧ r'.oc = match v with | .int n => .num ((n + 1) % 1000) | .clo _ _ _ _ _ => .out .number := by
  have y := Run.behind x 1 [.made 0] .nil
  have hl0 : nact [Ev.made 0] = 0 := rfl
  have y' := (R.more y (mv_still (fun z => nomatch z)) M (by rw [nact_mv]; omega)).cast (Nat.zero_add 1).symm rfl rfl rfl (by rw [hl0, Nat.sub_zero] : M = M - nact [Ev.made 0]) rfl rfl
  have hl : M - nact [Ev.made 0] - nact (mvT 1 (psi 0 (nact [Ev.made 0])) .nil t) ≠ 0 := by rw [nact_mv, hl0]; omega
  have g : ∀ (a : Nat) (w : Val) (ρ : Env), (Env.cons 0 a 0 w ρ).get 0 = some (a, 0, w) := fun a w ρ => by rw [Env.get, if_pos rfl]
  cases v with
  | int n => exact ⟨_, _, R.call run_maker y' hl (R.plus (.name (g _ _ _)) .num), rfl⟩
  | clo k c s q z => exact ⟨_, _, R.call run_maker y' hl (R.plusF (.name (g _ _ _)) .num (.inl ⟨_, _, _, _, _, rfl⟩)), rfl⟩
/-- a number called -/
theorem f7 {n : Nat} (w : p.Wf []) (x : Run p m (.val (.int n)) t) (M : Nat) (h : nact t ≤ M) : ∃ o t', Run (.call p p) M (.out o) t' := by
  have x' := R.more x (fun z => nomatch z) M h
  obtain ⟨r2, t2, y, _⟩ := R.all (M - nact t) p [] (0 + p.ns) .nil 0 (1 + nact t) w (fun _ z => nomatch z) (by rw [Env.Wf]; trivial)
  cases r2 with
  | out o => exact ⟨o, _, R.callS2 x' y⟩
  | val v => exact ⟨.function, _, R.callF x' y⟩
def bothE (p : E) (k : Nat) : E := .lt 2 p (.lt 3 p (.num k))
/-- a program done twice, one let behind the other -/
theorem f8 {k : Nat} (w : p.Wf []) (M : Nat) : (∃ o t', Run (bothE p k) M (.out o) t' ∧ ∀ v t1, Run p M (.val v) t1 → o = .still) ∨
    ∃ v t1 t', Run p M (.val v) t1 ∧ 2 * nact t1 ≤ M ∧ Run (bothE p k) M (.val (.int k)) t' ∧ (bindsT t').length = 2 * (bindsT t1).length + 2 := by
  obtain ⟨r0, t0, x, _⟩ := Run.all w M
  have y := (Run.behind x 1 [] .nil).cast (Nat.zero_add 1).symm rfl rfl rfl rfl rfl rfl
  cases r0 with
  | out o => exact .inl ⟨o, _, R.ltS y, fun v t1 z => by have := (x.det z).1; cases this⟩
  | val v =>
    obtain ⟨r2, t2, x2, _⟩ := Run.all w (M - nact t0)
    have y2 := Run.behind x2 (0 + 1 + p.ns + 1) (mvT 1 (psi 0 (nact [])) .nil t0) (.cons 2 0 0 (Val.mv 1 (psi 0 (nact [])) .nil v) .nil)
    have y2' := y2.cast rfl rfl rfl rfl (by rw [nact_mv] : M - nact t0 = M - nact (mvT 1 (psi 0 (nact [])) .nil t0)) rfl rfl
    cases r2 with
    | out o =>
      refine .inl ⟨o, _, R.lt y (R.ltS y2'), fun v' t1 z => ?_⟩
      cases o with
      | still => rfl
      | number => have := (R.det (R.more x2 (fun z => nomatch z) M (by have := x2.le; omega)) x).1; cases this
      | function => have := (R.det (R.more x2 (fun z => nomatch z) M (by have := x2.le; omega)) x).1; cases this
    | val v2 =>
      have hd := R.det (R.more x2 (fun z => nomatch z) M (by have := x2.le; omega)) x
      have l2 := x2.le
      obtain ⟨_, rfl⟩ := hd
      have l0 := x.le
      refine .inr ⟨v, t2, _, x, by omega, R.lt y (R.lt y2' .num), ?_⟩
      simp only [bindsT_app, List.length_append]
      rw [bindsT_len]
      show _ + (bindsT (_ :: (mvT _ _ _ t2 ++ [_]))).length = _
      rw [show ∀ (a s : Nat) (v : Val) (u : List Ev), bindsT (.bind a s v :: u) = ((a, s), v.wo) :: bindsT u from fun _ _ _ _ => rfl, List.length_cons, bindsT_app, List.length_append, bindsT_len]
      show _ + (_ + 1 + 1) = _
      omega
end
end EW

section
open PySem L2 EW
local macro_rules | `(tactic| walk_at "ne") => `(tactic| first
  | assumption
  | exact Ne.symm (by assumption)
  | ((with_reducible refine' EW.RowAt.newne ?n ?h); (case n => assumption); (case h => walk_at "hp"))
  | ((with_reducible refine' Ne.symm (EW.RowAt.newne ?n ?h)); (case n => assumption); (case h => walk_at "hp"))
  | ((with_reducible refine' EW.BoxAt.newne ?n ?h); (case n => assumption); (case h => walk_at "hp"))
  | ((with_reducible refine' Ne.symm (EW.BoxAt.newne ?n ?h)); (case n => assumption); (case h => walk_at "hp")))
local macro_rules | `(tactic| walk_at "ns") => `(tactic| first
  | assumption
  | exact EW.RowAt.ne (by assumption)
  | ((with_reducible refine' EW.RowAt.notin ?n ?h); (case n => assumption); (case h => walk_at "hp")))
local macro_rules | `(tactic| walk_at "ni") => `(tactic| first
  | with_reducible exact EW.ne_mem0
  | with_reducible exact EW.dis0
  | ((with_reducible refine' EW.ne_mem1 ?h); (case h => walk_at "ne"))
  | ((with_reducible refine' EW.ne_mem2 ?h ?g); (case h => walk_at "ne"); (case g => walk_at "ne"))
  | ((with_reducible refine' EW.dis1 ?h); (case h => walk_at "ns"))
  | ((with_reducible refine' EW.dis2 ?h ?g); (case h => walk_at "ns"); (case g => walk_at "ns")))
local macro_rules | `(tactic| walk_at "hp") => `(tactic| first
  | assumption
  | ((with_reducible refine' EW.RE.mono (EW.Kp.tup ?k) ?h); (case k => assumption); (case h => walk_at "hp"))
  | ((with_reducible refine' EW.Kp.tup ?k _ _ ?h); (case k => assumption); (case h => walk_at "hp"))
  | ((with_reducible refine' EW.kp_tup ?k ?h); (case k => assumption); (case h => walk_at "hp"))
  | ((with_reducible refine' EW.Kp.keep ?k _ _ ?h ?n); (case k => assumption); (case h => walk_at "hp"); (case n => walk_at "ni"))
  | ((with_reducible refine' EW.Kp.seqL ?k ?h ?n); (case k => assumption); (case h => walk_at "hp"); (case n => walk_at "ni"))
  | ((with_reducible refine' EW.RowAt.keep ?k ?h ?n1 ?n2); (case k => assumption); (case h => walk_at "hp"); (case n1 => walk_at "ni"); (case n2 => walk_at "ni"))
  | ((with_reducible refine' EW.ScAt.keep ?k ?h ?n); (case k => assumption); (case h => walk_at "hp"); (case n => walk_at "ni"))
  | ((with_reducible refine' EW.BoxAt.keep ?k ?h ?n); (case k => assumption); (case h => walk_at "hp"); (case n => walk_at "ni"))
  | ((with_reducible refine' L2.SqL.of ?h); (case h => walk_at "hp"))
  | ((with_reducible refine' L2.SqT.of ?h); (case h => walk_at "hp")))
local macro_rules | `(tactic| walk_at "sb") => `(tactic| first
  | exact EW.sub0
  | exact EW.sub_refl
  | exact EW.sub_l
  | exact EW.sub_r)
local macro_rules | `(tactic| walk_at "kp") => `(tactic| first
  | exact EW.Kp.refl
  | assumption
  | ((with_reducible refine' EW.Kp.trans ?h (EW.Kp.mono ?k ?s)); (case k => assumption); (case s => walk_at "sb"); (case h => walk_at "kp")))
local macro_rules | `(tactic| walk_at "st") => `(tactic| first
  | with_reducible refine rd_seq ?_
  | with_reducible refine rd_next ?_
  | with_reducible refine rd_asg ?_
  | with_reducible refine rd_name ?_
  | with_reducible refine rd_ret ?_
  | with_reducible refine rd_drop ?_
  | ((with_reducible refine' rd_var ?e ?_); (case e => first | with_reducible assumption | exact rfl | assumption))
  | with_reducible refine rd_c ?_
  | with_reducible refine rd_op ?_
  | with_reducible refine rd_I0 ?_
  | with_reducible refine rd_test ?_
  | with_reducible refine rd_tB ?_
  | with_reducible refine rd_not ?_
  | with_reducible refine rd_and ?_
  | with_reducible refine rd_or ?_
  | with_reducible refine rd_ifE ?_
  | with_reducible refine rd_notV ?_
  | with_reducible refine rd_andV ?_
  | with_reducible refine rd_orV ?_
  | with_reducible refine rd_cons ?_
  | with_reducible refine EW.rd_par ?_
  | with_reducible refine EW.rd_par2 ?_
  | with_reducible refine EW.rd_parT ?_
  | with_reducible refine EW.rd_par3 ?_
  | with_reducible refine rd_nil ?_
  | with_reducible refine rd_cb ?_
  | with_reducible refine rd_call ?_
  | with_reducible refine rd_meth ?_
  | with_reducible refine rd_sub ?_
  | with_reducible refine rd_fl ?_
  | with_reducible refine rd_tup ?_
  | with_reducible refine rd_lst ?_
  | with_reducible refine rd_sl ?_
  | with_reducible refine rd_part ?_
  | with_reducible refine rd_partI ?_
  | with_reducible refine rd_nopart ?_
  | with_reducible refine rd_yes ?_
  | with_reducible refine rd_dnewK ?_
  | with_reducible refine rd_dnewT ?_
  | ((with_reducible refine' rd_isT ?h ?_); (case h => walk_at "hp"))
  | with_reducible refine rd_isI ?_
  | with_reducible refine rd_isII ?_
  | with_reducible refine rd_isIB ?_
  | ((with_reducible refine' rd_sum ?h ?_); (case h => walk_at "hp"))
  | ((with_reducible refine' rd_tail ?h ?_); (case h => walk_at "hp"))
  | ((with_reducible refine rd_newO ?_); intro _ _ _ _ _)
  | ((with_reducible refine' rd_lenS ?l ?_); (case l => exact rfl))
  | ((with_reducible refine' rd_ixS ?l ?e ?_); (case l => exact rfl); (case e => first | assumption | with_reducible exact EW.at_head | exact rfl))
  | with_reducible refine EW.ite_dT (by decide +kernel) ?_
  | with_reducible refine EW.ite_dF (by decide +kernel) ?_
  | with_reducible refine EW.ite_nT (by decide +kernel) ?_
  | with_reducible refine EW.ite_nF (by decide +kernel) ?_
  | with_reducible refine EW.iteNF ?_
  | with_reducible refine EW.iteNT ?_
  | with_reducible refine EW.iteEC ?_
  | with_reducible refine EW.iteEN ?_
  | with_reducible refine EW.iteNC ?_
  | with_reducible refine EW.iteNN ?_
  | with_reducible refine EW.rd_kget (by assumption) ?_
  | with_reducible refine EW.rd_kgx (by assumption) _ ?_
  | with_reducible refine EW.rd_ixD (by assumption) _ ?_
  | with_reducible refine EW.rd_chain ?_
  | with_reducible refine L2.iteT ?_
  | with_reducible refine L2.iteF ?_
  | with_reducible refine rd_bm ?_
  | with_reducible refine rd_bm0 ?_
  | with_reducible refine rd_sfld ?_
  | with_reducible refine rd_make ?_
  | ((with_reducible refine' rd_bmL ?s ?_); (case s => walk_at "hp"))
  | ((with_reducible refine' rd_bm0L ?s ?_); (case s => walk_at "hp"))
  | ((with_reducible refine' rd_mex ?s ?l ?_); (case s => walk_at "hp"); (case l => assumption))
  | with_reducible refine rd_lc ?_
  | with_reducible refine rd_for ?_
  | with_reducible refine rd_il ?_
  | with_reducible refine rd_it ?_
  | with_reducible refine rd_ir ?_
  | with_reducible refine rd_dput ?_
  | with_reducible refine rd_dget ?_
  | ((with_reducible refine' rd_ilx ?s ?_); (case s => walk_at "hp"))
  | ((with_reducible refine' rd_itx ?s ?_); (case s => walk_at "hp"))
  | ((with_reducible refine' rd_getK ?s ?e ?_); (case s => walk_at "hp"); (case e => assumption))
  | ((with_reducible refine rd_newT rfl ?_); intro _ _ _ _ _)
  | ((with_reducible refine rd_newL rfl ?_); intro _ _ _ _ _)
  | ((with_reducible refine' rd_taken ?a ?b ?c ?_); (case a => walk_at "hp"); (case b => first | omega | decide); (case c => first | omega | decide); intro _ _ _ _ _)
  | ((with_reducible refine' rd_neE ?a ?b ?_); (case a => walk_at "hp"); (case b => walk_at "hp"))
  | ((with_reducible refine' rd_eqE ?a ?b ?_); (case a => walk_at "hp"); (case b => walk_at "hp"))
  | with_reducible refine rd_eq rfl ?_
  | with_reducible refine rd_ne rfl ?_
  | with_reducible refine rd_bl ?_
  | ((with_reducible refine rd_I ?c ?_); (case c => first | assumption | omega | decide | (exact Or.inl ⟨by omega, by omega⟩) | (exact ⟨by omega, by omega⟩) | (exact ⟨by decide, by decide, by decide⟩)))
  | refine Or.inl ⟨_, rfl, ?_⟩
  | refine Or.inr ⟨_, rfl, ?_⟩
  | ((with_reducible refine' rd_lenL ?s ?_); (case s => walk_at "hp"))
  | ((with_reducible refine' rd_lenT ?s ?_); (case s => walk_at "hp"))
  | ((with_reducible refine' rd_ixL ?s ?e ?_); (case s => walk_at "hp"); (case e => first | assumption | with_reducible exact EW.at_head | exact rfl))
  | ((with_reducible refine' rd_ixT ?s ?e ?_); (case s => walk_at "hp"); (case e => first | assumption | with_reducible exact EW.at_head | exact rfl))
  | ((with_reducible refine' rd_flx ?s ?c ?n ?l ?_); (case s => walk_at "hp"); (case c => assumption); (case n => assumption); (case l => assumption)))
local macro_rules | `(tactic| walk_at "go") => `(tactic| repeat (walk_at "st"))
local macro_rules | `(tactic| walk_at "gi") => `(tactic| repeat (first | with_reducible refine rd_if ?_ | walk_at "st"))
namespace EW
open PySem L2
/-- the expressions straight within one -/
def E.kids : E → List E
  | .num _ => []
  | .name _ => []
  | .plus a b => [a, b]
  | .lt _ a b => [a, b]
  | .fn _ b => [b]
  | .call a b => [a, b]
  | .ite c a b => [c, a, b]
def E.word : E → Str
  | .num _ => "num"
  | .name _ => "name"
  | .plus _ _ => "plus"
  | .lt _ _ _ => "let"
  | .fn _ _ => "fun"
  | .call _ _ => "call"
  | .ite _ _ _ => "if"
theorem E.kids_depth {e k : E} (h : k ∈ e.kids) : k.depth < e.depth := by
  cases e <;> simp only [E.kids, List.mem_cons, List.not_mem_nil, or_false] at h
  all_goals simp only [E.depth]
  · rcases h with rfl | rfl <;> omega
  · rcases h with rfl | rfl <;> omega
  · rw [h]; omega
  · rcases h with rfl | rfl <;> omega
  · rcases h with rfl | rfl | rfl <;> omega
theorem E.size_kids (e : E) : e.size = 1 + (e.kids.map E.size).sum := by
  cases e <;> simp [E.kids, E.size] <;> omega
/-- a tree's items, each with what it is -/
theorem RE.items {H : Hp} : ∀ {e : E} {v : V}, RE H e v → ∃ p zs, v = .ref p ∧ H p = some (.tup (.str e.word :: zs.map (fun z : V × Option E => z.1))) ∧
    (∀ z ∈ zs, (z.2 = none ∧ ∃ n : Int, z.1 = .int n) ∨ ∃ k, z.2 = some k ∧ RE H k z.1 ∧ k ∈ e.kids) ∧ zs.filterMap (fun z : V × Option E => z.2) = e.kids ∧ zs ≠ [] ∧ zs.length ≤ 3
  | .num n, _, ⟨p, e, h⟩ => ⟨p, [(.int n, none)], e, h, fun z hz => by rw [List.mem_singleton.mp hz]; exact .inl ⟨rfl, _, rfl⟩, rfl, List.cons_ne_nil _ _, by simp⟩
  | .name n, _, ⟨p, e, h⟩ => ⟨p, [(.int n, none)], e, h, fun z hz => by rw [List.mem_singleton.mp hz]; exact .inl ⟨rfl, _, rfl⟩, rfl, List.cons_ne_nil _ _, by simp⟩
  | .plus a b, _, ⟨p, x, y, e, h, ra, rb⟩ => ⟨p, [(x, some a), (y, some b)], e, h, fun z hz => by
      rcases List.mem_cons.mp hz with rfl | hz
      · exact .inr ⟨a, rfl, ra, by simp [E.kids]⟩
      · rw [List.mem_singleton.mp hz]; exact .inr ⟨b, rfl, rb, by simp [E.kids]⟩, rfl, List.cons_ne_nil _ _, by simp⟩
  | .lt k a b, _, ⟨p, x, y, e, h, ra, rb⟩ => ⟨p, [(.int k, none), (x, some a), (y, some b)], e, h, fun z hz => by
      rcases List.mem_cons.mp hz with rfl | hz
      · exact .inl ⟨rfl, _, rfl⟩
      rcases List.mem_cons.mp hz with rfl | hz
      · exact .inr ⟨a, rfl, ra, by simp [E.kids]⟩
      · rw [List.mem_singleton.mp hz]; exact .inr ⟨b, rfl, rb, by simp [E.kids]⟩, rfl, List.cons_ne_nil _ _, by simp⟩
  | .fn k b, _, ⟨p, y, e, h, rb⟩ => ⟨p, [(.int k, none), (y, some b)], e, h, fun z hz => by
      rcases List.mem_cons.mp hz with rfl | hz
      · exact .inl ⟨rfl, _, rfl⟩
      · rw [List.mem_singleton.mp hz]; exact .inr ⟨b, rfl, rb, by simp [E.kids]⟩, rfl, List.cons_ne_nil _ _, by simp⟩
  | .call a b, _, ⟨p, x, y, e, h, ra, rb⟩ => ⟨p, [(x, some a), (y, some b)], e, h, fun z hz => by
      rcases List.mem_cons.mp hz with rfl | hz
      · exact .inr ⟨a, rfl, ra, by simp [E.kids]⟩
      · rw [List.mem_singleton.mp hz]; exact .inr ⟨b, rfl, rb, by simp [E.kids]⟩, rfl, List.cons_ne_nil _ _, by simp⟩
  | .ite c a b, _, ⟨p, w, x, y, e, h, rc, ra, rb⟩ => ⟨p, [(w, some c), (x, some a), (y, some b)], e, h, fun z hz => by
      rcases List.mem_cons.mp hz with rfl | hz
      · exact .inr ⟨c, rfl, rc, by simp [E.kids]⟩
      rcases List.mem_cons.mp hz with rfl | hz
      · exact .inr ⟨a, rfl, ra, by simp [E.kids]⟩
      · rw [List.mem_singleton.mp hz]; exact .inr ⟨b, rfl, rb, by simp [E.kids]⟩, rfl, List.cons_ne_nil _ _, by simp⟩
section
variable {K : PySem.W.Frag} {a : Addr} {g : TG} {tt : TT} {te : TE} {vs : List Nat} {σ : L2.St} {H1 : Hp} {D : Addr} {Qd : Hp → Prop}
/-- a comprehension over a tree's items that takes its expressions -/
theorem lc_kids {zs : List (V × Option E)} (f : E → V) (hD : H1 D = none) (hS : H1 a = some (.tup (zs.map fun z => z.1))) (hl : zs.length ≤ 3)
    (hs : ∀ z ∈ zs, ∀ H, Kp [] H1 H → ∀ (Qy : VK) (Qn : Hp → Prop), (∀ e, z.2 = some e → ∀ H4, Kp [] H H4 → Qy (f e) H4) → (z.2 = none → ∀ H3, Kp [] H H3 → Qn H3) →
      g z.1 (wipe σ vs) H fun σ2 H2 => wipe σ2 vs = wipe σ vs ∧ tt σ2 H2 fun b H3 => if b = true then te σ2 H3 Qy else Qn H3)
    (hd : ∀ H, Kp [] H1 H → H D = some (.lst ((zs.filterMap fun z => z.2).map f)) → Qd H) :
    ∃ W : Nat → Nat → Hp → Prop, (∃ m, W 0 m (upd H1 D (.lst []))) ∧ ∀ i m H, W i m H → ((Itt K a).stop i H ∧ Qd H) ∨ ((Itt K a).go i H ∧ ∃ Nx : Hp → Prop, (∀ H', Nx H' → ∃ m', m' < m ∧ W (i + 1) m' H') ∧
      ∀ x H', (Itt K a).yld i H x H' → g x (wipe σ vs) H' fun σ2 H2 => wipe σ2 vs = wipe σ vs ∧ tt σ2 H2 fun b H3 => if b = true then te σ2 H3 fun y H4 => ∃ acc, H4 D = some (.lst acc) ∧ acc.length < sizeLine ∧ Nx (upd H4 D (.lst (acc ++ [y]))) else Nx H3) := by
  refine lc_JT (M := []) (fun l acc _ => ∃ zl zr, zs = zl ++ zr ∧ l = zl.map (fun z => z.1) ∧ acc = (zl.filterMap fun z => z.2).map f) (fun _ _ _ _ _ h => h) hD (fun _ h => nomatch h) hS (by rw [List.length_map]; omega) ⟨[], zs, rfl, rfl, rfl⟩ ?_ ?_
  · intro l x r acc H e ⟨zl, zr, e1, e2, e3⟩ k _ _ Qy Qn qy qn
    obtain ⟨z, zr', rfl, rfl⟩ : ∃ z zr', zr = z :: zr' ∧ z.1 = x := by
      rw [e1, List.map_append, e2] at e
      have e4 := List.append_cancel_left e
      cases zr with
      | nil => cases e4
      | cons z zr' =>
        rw [List.map_cons] at e4
        exact ⟨z, zr', rfl, (List.cons.inj e4).1⟩
    refine hs z (by rw [e1]; simp) H k Qy Qn (fun k' ek H4 k4 => ?_) (fun ek H3 k3 => ?_)
    · exact qy _ _ k4 ⟨zl ++ [z], zr', by rw [e1]; simp, by rw [e2]; simp, by rw [e3, List.filterMap_append, List.map_append]; simp [ek]⟩
    · exact qn _ k3 ⟨zl ++ [z], zr', by rw [e1]; simp, by rw [e2]; simp, by rw [e3, List.filterMap_append, List.map_append]; simp [ek]⟩
  · intro acc H ⟨zl, zr, e1, e2, e3⟩ k hacc _
    have : zr = [] := by
      rw [e1, List.map_append] at e2
      have e4 : zl.map (fun z : V × Option E => z.1) ++ zr.map (fun z => z.1) = zl.map (fun z => z.1) ++ [] := by rw [List.append_nil]; exact e2
      exact List.map_eq_nil_iff.mp (List.append_cancel_left e4)
    subst this
    rw [List.append_nil] at e1
    subst e1
    rw [e3] at hacc
    exact hd H k hacc
/-! ### is it a tuple -/
theorem rd_isT {H : Hp} {p : Addr} {xs : List V} {Q : VK} (h : H p = some (.tup xs)) (q : Q (.bl true) H) : rIsi K [.ref p, .ty "tuple"] H Q :=
  ⟨_, _, .type "tuple", .type "tuple", true, rfl, .ty _, .base (.tup h), kit_ty (by decide +kernel), q⟩
theorem rd_isI {H : Hp} {n : Int} {Q : VK} (q : Q (.bl false) H) : rIsi K [.int n, .ty "tuple"] H Q :=
  ⟨_, _, .type "int", .type "tuple", false, rfl, .ty _, .base (.int n), kit_ty (by decide +kernel), q⟩
theorem rd_isII {H : Hp} {n : Int} {Q : VK} (q : Q (.bl true) H) : rIsi K [.int n, .ty "int"] H Q :=
  ⟨_, _, .type "int", .type "int", true, rfl, .ty _, .base (.int n), kit_ty (by decide +kernel), q⟩
theorem rd_isIB {H : Hp} {n : Int} {Q : VK} (q : Q (.bl false) H) : rIsi K [.int n, .ty "bool"] H Q :=
  ⟨_, _, .type "int", .type "bool", false, rfl, .ty _, .base (.int n), kit_ty (by decide +kernel), q⟩
theorem rd_sum {H : Hp} {p : Addr} {ns : List Int} {Q : VK} (h : SqL K H p (ns.map V.int)) (q : Q (.int ns.sum) H) : rSum K [.ref p] H Q := ⟨p, ns, rfl, h, q⟩
/-- t[1:] of a tuple with more than one item -/
theorem rd_tail {H : Hp} {p : Addr} {x : V} {xs : List V} {Q : VK} (h : H p = some (.tup (x :: xs))) (q : NewO (.tup xs) H Q) : rSlA K (.ref p) (some 1) none H Q := by
  refine ⟨p, x :: xs, rfl, SqT.of h, fun c => ?_, fun _ => ?_⟩
  · have := c.1
    simp [HT.sIx] at this
  · have e : cutV (x :: xs) (some 1) none = xs := by
      unfold cutV
      have e1 : HT.sIx (x :: xs).length 0 (some 1) = 1 := by
        have q1 : HT.sIx (x :: xs).length 0 (some ((1 : Nat) : Int)) = min 1 (x :: xs).length := HT.sIx_nat _ _ _
        rw [List.length_cons] at q1
        exact q1.trans (by omega)
      have e2 : HT.sIx (x :: xs).length (x :: xs).length none = xs.length + 1 := rfl
      rw [e1, e2]
      simp
    rw [e]
    exact q
theorem rd_sl {r : V → Option Int → Option Int → Hp → VK → Prop} {tl th : TO} {σ : L2.St} {H : Hp} {Q : VK} (h : te σ H fun x H1 => tl σ H1 fun l H2 => th σ H2 fun u H3 => r x l u H3 Q) : tSl r te tl th σ H Q := h
def PartI (x : V) (H : Hp) (Q : Option Int → Hp → Prop) : Prop := ∃ i, x = .int i ∧ Q (some i) H
theorem rd_part {σ : L2.St} {H : Hp} {Q : Option Int → Hp → Prop} (h : te σ H fun x H1 => PartI x H1 Q) : tPart te σ H Q := h
theorem rd_partI {n : Int} {H : Hp} {Q : Option Int → Hp → Prop} (h : Q (some n) H) : PartI (.int n) H Q := ⟨n, rfl, h⟩
theorem rd_nopart {σ : L2.St} {H : Hp} {Q : Option Int → Hp → Prop} (h : Q none H) : tNoPart σ H Q := h
theorem rd_dnewK {σ : L2.St} {H : Hp} {Q : VK} (h : NewO (.dK []) H Q) : tDNewK σ H Q := h
theorem rd_dnewT {σ : L2.St} {H : Hp} {Q : VK} (h : NewO (.dT []) H Q) : tDNewT σ H Q := h
theorem rd_yes {σ : L2.St} {H : Hp} {Q : Bool → Hp → Prop} (h : Q true H) : tYes σ H Q := h
end
end EW
namespace EW
open PySem L2
def rLenT : List V → Hp → VK → Prop := fun xs H Q => ∃ x, xs = [.str x] ∧ x.length ≤ sizeLine ∧ Q (.int x.length) H
theorem w_lenS {X : Cx} : CallR X (.builtin "len") rLenT := call_len_str
theorem rd_lenS {z : Str} {H : Hp} {Q : VK} (l : Nat.ble z.length 1000000 = true) (h : Q (.int z.length) H) : rLenT [.str z] H Q := ⟨z, rfl, Nat.le_trans (Nat.le_of_ble_eq_true l) (by decide), h⟩
/-- an item of a text -/
theorem rd_ixS {z : Str} {i : Int} {c : Nat} {H : Hp} {Q : VK} (l : Nat.ble z.length 1000000 = true) (e : atI z.cps.toList i = some c) (h : Q (.str ⟨#[c]⟩) H) : rIxS (.str z) (.int i) H Q :=
  ⟨z, i, c, rfl, rfl, Nat.le_trans (Nat.le_of_ble_eq_true l) (by decide), e, h⟩
theorem ite_dT {p A B : Prop} [Decidable p] (h : p) (q : A) : if decide p = true then A else B := by rw [if_pos (decide_eq_true h)]; exact q
theorem ite_dF {p A B : Prop} [Decidable p] (h : ¬ p) (q : B) : if decide p = true then A else B := by rw [if_neg (fun z => h (of_decide_eq_true z))]; exact q
theorem ite_nT {p A B : Prop} [Decidable p] (h : ¬ p) (q : A) : if (!decide p) = true then A else B := by rw [if_pos (by rw [decide_eq_false h]; rfl)]; exact q
theorem ite_nF {p A B : Prop} [Decidable p] (h : p) (q : B) : if (!decide p) = true then A else B := by rw [if_neg (by rw [decide_eq_true h]; exact Bool.noConfusion)]; exact q
def E.shape : E → Str
  | .num _ => "n"
  | .name _ => "k"
  | .plus _ _ => "ee"
  | .lt _ _ _ => "kee"
  | .fn _ _ => "ke"
  | .call _ _ => "ee"
  | .ite _ _ _ => "eee"
/-- whether the i-th part has one name more, and which -/
def E.bnd : E → Nat → Option Nat
  | .fn k _, _ => some k
  | .lt k _ _, i => if i = 2 then some k else none
  | _, _ => none
def more (B : List Nat) : Option Nat → List Nat
  | none => B
  | some k => B ++ [k]
/-- the items by their places, with the shape's signs -/
theorem RE.shaped {H : Hp} {e : E} {v : V} {B : List Nat} (h : RE H e v) (w : e.Wf B) : ∃ (p : Addr) (zs : List (V × Option E)), v = .ref p ∧ H p = some (.tup (.str e.word :: zs.map (fun z : V × Option E => z.1))) ∧ zs.length = e.shape.length ∧ zs.filterMap (fun z : V × Option E => z.2) = e.kids ∧
    ∀ i : Nat, i < zs.length → ∃ x o c, zs[i]? = some (x, o) ∧ atI e.shape.cps.toList (i : Int) = some c ∧ ((c ≠ 101 ∧ o = none) ∨ (c = 101 ∧ ∃ k, o = some k ∧ k ∈ e.kids ∧ RE H k x ∧ k.Wf (more B (e.bnd i)))) := by
  cases e with
  | num n =>
    obtain ⟨p, ev, hp⟩ := h
    refine ⟨p, [(.int n, none)], ev, hp, rfl, rfl, fun i hi => ?_⟩
    obtain rfl : i = 0 := by simp at hi; omega
    exact ⟨_, _, _, rfl, rfl, .inl ⟨by decide, rfl⟩⟩
  | name n =>
    obtain ⟨p, ev, hp⟩ := h
    refine ⟨p, [(.int n, none)], ev, hp, rfl, rfl, fun i hi => ?_⟩
    obtain rfl : i = 0 := by simp at hi; omega
    exact ⟨_, _, _, rfl, rfl, .inl ⟨by decide, rfl⟩⟩
  | plus a b =>
    obtain ⟨p, x, y, ev, hp, ra, rb⟩ := h
    refine ⟨p, [(x, some a), (y, some b)], ev, hp, rfl, rfl, fun i hi => ?_⟩
    obtain rfl | rfl : i = 0 ∨ i = 1 := by simp at hi; omega
    · exact ⟨_, _, _, rfl, rfl, .inr ⟨rfl, a, rfl, by simp [E.kids], ra, w.1⟩⟩
    · exact ⟨_, _, _, rfl, rfl, .inr ⟨rfl, b, rfl, by simp [E.kids], rb, w.2⟩⟩
  | lt k a b =>
    obtain ⟨p, x, y, ev, hp, ra, rb⟩ := h
    refine ⟨p, [(.int k, none), (x, some a), (y, some b)], ev, hp, rfl, rfl, fun i hi => ?_⟩
    obtain rfl | rfl | rfl : i = 0 ∨ i = 1 ∨ i = 2 := by simp at hi; omega
    · exact ⟨_, _, _, rfl, rfl, .inl ⟨by decide, rfl⟩⟩
    · exact ⟨_, _, _, rfl, rfl, .inr ⟨rfl, a, rfl, by simp [E.kids], ra, w.2.1⟩⟩
    · exact ⟨_, _, _, rfl, rfl, .inr ⟨rfl, b, rfl, by simp [E.kids], rb, w.2.2⟩⟩
  | fn k b =>
    obtain ⟨p, y, ev, hp, rb⟩ := h
    refine ⟨p, [(.int k, none), (y, some b)], ev, hp, rfl, rfl, fun i hi => ?_⟩
    obtain rfl | rfl : i = 0 ∨ i = 1 := by simp at hi; omega
    · exact ⟨_, _, _, rfl, rfl, .inl ⟨by decide, rfl⟩⟩
    · exact ⟨_, _, _, rfl, rfl, .inr ⟨rfl, b, rfl, by simp [E.kids], rb, w.2⟩⟩
  | call a b =>
    obtain ⟨p, x, y, ev, hp, ra, rb⟩ := h
    refine ⟨p, [(x, some a), (y, some b)], ev, hp, rfl, rfl, fun i hi => ?_⟩
    obtain rfl | rfl : i = 0 ∨ i = 1 := by simp at hi; omega
    · exact ⟨_, _, _, rfl, rfl, .inr ⟨rfl, a, rfl, by simp [E.kids], ra, w.1⟩⟩
    · exact ⟨_, _, _, rfl, rfl, .inr ⟨rfl, b, rfl, by simp [E.kids], rb, w.2⟩⟩
  | ite c a b =>
    obtain ⟨p, z, x, y, ev, hp, rc, ra, rb⟩ := h
    refine ⟨p, [(z, some c), (x, some a), (y, some b)], ev, hp, rfl, rfl, fun i hi => ?_⟩
    obtain rfl | rfl | rfl : i = 0 ∨ i = 1 ∨ i = 2 := by simp at hi; omega
    · exact ⟨_, _, _, rfl, rfl, .inr ⟨rfl, c, rfl, by simp [E.kids], rc, w.1⟩⟩
    · exact ⟨_, _, _, rfl, rfl, .inr ⟨rfl, a, rfl, by simp [E.kids], ra, w.2.1⟩⟩
    · exact ⟨_, _, _, rfl, rfl, .inr ⟨rfl, b, rfl, by simp [E.kids], rb, w.2.2⟩⟩
theorem iteNF {A B : Prop} (q : A) : if (!false) = true then A else B := q
theorem iteNT {A B : Prop} (q : B) : if (!true) = true then A else B := q
theorem rd_chain {r r' : R2} {ta tb tc : TE} {σ : L2.St} {H : Hp} {Q : VK} (h : ta σ H fun x H1 => tb σ H1 fun y H2 => r x y H2 fun z H3 => ∃ k, z = .bl k ∧ (if k = true then tc σ H3 fun w' H4 => r' y w' H4 Q else Q (.bl false) H3)) : tChain r r' ta tb tc σ H Q := h
theorem rd_cat {a b : Addr} {xs zs : List V} {H : Hp} {Q : VK} (ha : H a = some (.lst xs)) (hb : H b = some (.lst zs)) (l : xs.length + zs.length ≤ 1000000) (h : NewO (.lst (xs ++ zs)) H Q) : rCat (.ref a) (.ref b) H Q :=
  ⟨a, b, xs, zs, rfl, rfl, ha, hb, Nat.le_trans l (by decide), h⟩
theorem iteEC {x : V} {xs : List V} {A B : Prop} (q : B) : if (x :: xs).isEmpty = true then A else B := q
theorem iteEN {A B : Prop} (q : A) : if ([] : List V).isEmpty = true then A else B := q
theorem iteNC {x : V} {xs : List V} {A B : Prop} (q : A) : if (!(x :: xs).isEmpty) = true then A else B := q
theorem iteNN {A B : Prop} (q : B) : if (!([] : List V).isEmpty) = true then A else B := q
theorem at_head {x : V} {xs : List V} : atI (x :: xs) 0 = some x := atI_nat (j := 0) rfl
theorem rd_in {K : PySem.W.Frag} {x : V} {p : Addr} {xs : List V} {H : Hp} {Q : VK} (h : SqL K H p xs) (f : flatV x = true) (fs : xs.all flatV = true) (q : Q (.bl (inV x xs)) H) : rIn K false x (.ref p) H Q := ⟨p, xs, rfl, .inl h, f, fs, q⟩
theorem rd_notIn {K : PySem.W.Frag} {x : V} {p : Addr} {xs : List V} {H : Hp} {Q : VK} (h : SqL K H p xs) (f : flatV x = true) (fs : xs.all flatV = true) (q : Q (.bl (!inV x xs)) H) : rIn K true x (.ref p) H Q := ⟨p, xs, rfl, .inl h, f, fs, q⟩
theorem rd_inT {K : PySem.W.Frag} {x : V} {p : Addr} {xs : List V} {H : Hp} {Q : VK} (h : SqT K H p xs) (f : flatV x = true) (fs : xs.all flatV = true) (q : Q (.bl (inV x xs)) H) : rIn K false x (.ref p) H Q := ⟨p, xs, rfl, .inr h, f, fs, q⟩
theorem rd_notInT {K : PySem.W.Frag} {x : V} {p : Addr} {xs : List V} {H : Hp} {Q : VK} (h : SqT K H p xs) (f : flatV x = true) (fs : xs.all flatV = true) (q : Q (.bl (!inV x xs)) H) : rIn K true x (.ref p) H Q := ⟨p, xs, rfl, .inr h, f, fs, q⟩
theorem flat_nV (l : List Nat) : (l.map nV).all flatV = true := by rw [List.all_map]; exact List.all_eq_true.mpr fun _ _ => rfl
theorem inV_nV (k : Nat) (l : List Nat) : inV (nV k) (l.map nV) = decide (k ∈ l) := by
  unfold inV
  rw [List.any_map]
  induction l with
  | nil => rfl
  | cons x r ih =>
    rw [List.any_cons, ih]
    by_cases e : k = x
    · subst e
      have : eqV (nV k) (nV k) = true := by show ((k : Int) == (k : Int)) = true; simp
      simp [this]
    · have : eqV (nV x) (nV k) = false := by
        show ((x : Int) == (k : Int)) = false
        rw [beq_eq_false_iff_ne]
        intro z
        exact e (by omega)
      simp [this, e]
end EW

end
section
open PySem L2 EW
local macro_rules | `(tactic| walk_at "ne") => `(tactic| first
  | assumption
  | exact Ne.symm (by assumption)
  | ((with_reducible refine' EW.RowAt.newne ?n ?h); (case n => assumption); (case h => walk_at "hp"))
  | ((with_reducible refine' Ne.symm (EW.RowAt.newne ?n ?h)); (case n => assumption); (case h => walk_at "hp"))
  | ((with_reducible refine' EW.BoxAt.newne ?n ?h); (case n => assumption); (case h => walk_at "hp"))
  | ((with_reducible refine' Ne.symm (EW.BoxAt.newne ?n ?h)); (case n => assumption); (case h => walk_at "hp")))
local macro_rules | `(tactic| walk_at "ns") => `(tactic| first
  | assumption
  | exact EW.RowAt.ne (by assumption)
  | ((with_reducible refine' EW.RowAt.notin ?n ?h); (case n => assumption); (case h => walk_at "hp")))
local macro_rules | `(tactic| walk_at "ni") => `(tactic| first
  | with_reducible exact EW.ne_mem0
  | with_reducible exact EW.dis0
  | ((with_reducible refine' EW.ne_mem1 ?h); (case h => walk_at "ne"))
  | ((with_reducible refine' EW.ne_mem2 ?h ?g); (case h => walk_at "ne"); (case g => walk_at "ne"))
  | ((with_reducible refine' EW.dis1 ?h); (case h => walk_at "ns"))
  | ((with_reducible refine' EW.dis2 ?h ?g); (case h => walk_at "ns"); (case g => walk_at "ns")))
local macro_rules | `(tactic| walk_at "hp") => `(tactic| first
  | assumption
  | ((with_reducible refine' EW.RE.mono (EW.Kp.tup ?k) ?h); (case k => assumption); (case h => walk_at "hp"))
  | ((with_reducible refine' EW.Kp.tup ?k _ _ ?h); (case k => assumption); (case h => walk_at "hp"))
  | ((with_reducible refine' EW.kp_tup ?k ?h); (case k => assumption); (case h => walk_at "hp"))
  | ((with_reducible refine' EW.Kp.keep ?k _ _ ?h ?n); (case k => assumption); (case h => walk_at "hp"); (case n => walk_at "ni"))
  | ((with_reducible refine' EW.Kp.seqL ?k ?h ?n); (case k => assumption); (case h => walk_at "hp"); (case n => walk_at "ni"))
  | ((with_reducible refine' EW.RowAt.keep ?k ?h ?n1 ?n2); (case k => assumption); (case h => walk_at "hp"); (case n1 => walk_at "ni"); (case n2 => walk_at "ni"))
  | ((with_reducible refine' EW.ScAt.keep ?k ?h ?n); (case k => assumption); (case h => walk_at "hp"); (case n => walk_at "ni"))
  | ((with_reducible refine' EW.BoxAt.keep ?k ?h ?n); (case k => assumption); (case h => walk_at "hp"); (case n => walk_at "ni"))
  | ((with_reducible refine' L2.SqL.of ?h); (case h => walk_at "hp"))
  | ((with_reducible refine' L2.SqT.of ?h); (case h => walk_at "hp")))
local macro_rules | `(tactic| walk_at "sb") => `(tactic| first
  | exact EW.sub0
  | exact EW.sub_refl
  | exact EW.sub_l
  | exact EW.sub_r)
local macro_rules | `(tactic| walk_at "kp") => `(tactic| first
  | exact EW.Kp.refl
  | assumption
  | ((with_reducible refine' EW.Kp.trans ?h (EW.Kp.mono ?k ?s)); (case k => assumption); (case s => walk_at "sb"); (case h => walk_at "kp")))
local macro_rules | `(tactic| walk_at "st") => `(tactic| first
  | with_reducible refine rd_seq ?_
  | with_reducible refine rd_next ?_
  | with_reducible refine rd_asg ?_
  | with_reducible refine rd_name ?_
  | with_reducible refine rd_ret ?_
  | with_reducible refine rd_drop ?_
  | ((with_reducible refine' rd_var ?e ?_); (case e => first | with_reducible assumption | exact rfl | assumption))
  | with_reducible refine rd_c ?_
  | with_reducible refine rd_op ?_
  | with_reducible refine rd_I0 ?_
  | with_reducible refine rd_test ?_
  | with_reducible refine rd_tB ?_
  | with_reducible refine rd_not ?_
  | with_reducible refine rd_and ?_
  | with_reducible refine rd_or ?_
  | with_reducible refine rd_ifE ?_
  | with_reducible refine rd_notV ?_
  | with_reducible refine rd_andV ?_
  | with_reducible refine rd_orV ?_
  | with_reducible refine rd_cons ?_
  | with_reducible refine EW.rd_par ?_
  | with_reducible refine EW.rd_par2 ?_
  | with_reducible refine EW.rd_parT ?_
  | with_reducible refine EW.rd_par3 ?_
  | with_reducible refine rd_nil ?_
  | with_reducible refine rd_cb ?_
  | with_reducible refine rd_call ?_
  | with_reducible refine rd_meth ?_
  | with_reducible refine rd_sub ?_
  | with_reducible refine rd_fl ?_
  | with_reducible refine rd_tup ?_
  | with_reducible refine rd_lst ?_
  | with_reducible refine rd_sl ?_
  | with_reducible refine rd_part ?_
  | with_reducible refine rd_partI ?_
  | with_reducible refine rd_nopart ?_
  | with_reducible refine rd_yes ?_
  | with_reducible refine rd_dnewK ?_
  | with_reducible refine rd_dnewT ?_
  | ((with_reducible refine' rd_isT ?h ?_); (case h => walk_at "hp"))
  | with_reducible refine rd_isI ?_
  | with_reducible refine rd_isII ?_
  | with_reducible refine rd_isIB ?_
  | ((with_reducible refine' rd_sum ?h ?_); (case h => walk_at "hp"))
  | ((with_reducible refine' rd_tail ?h ?_); (case h => walk_at "hp"))
  | ((with_reducible refine rd_newO ?_); intro _ _ _ _ _)
  | ((with_reducible refine' rd_lenS ?l ?_); (case l => exact rfl))
  | ((with_reducible refine' rd_ixS ?l ?e ?_); (case l => exact rfl); (case e => first | assumption | with_reducible exact EW.at_head | exact rfl))
  | with_reducible refine EW.ite_dT (by decide +kernel) ?_
  | with_reducible refine EW.ite_dF (by decide +kernel) ?_
  | with_reducible refine EW.ite_nT (by decide +kernel) ?_
  | with_reducible refine EW.ite_nF (by decide +kernel) ?_
  | with_reducible refine EW.iteNF ?_
  | with_reducible refine EW.iteNT ?_
  | with_reducible refine EW.iteEC ?_
  | with_reducible refine EW.iteEN ?_
  | with_reducible refine EW.iteNC ?_
  | with_reducible refine EW.iteNN ?_
  | with_reducible refine EW.rd_kget (by assumption) ?_
  | with_reducible refine EW.rd_kgx (by assumption) _ ?_
  | with_reducible refine EW.rd_ixD (by assumption) _ ?_
  | with_reducible refine EW.rd_chain ?_
  | with_reducible refine L2.iteT ?_
  | with_reducible refine L2.iteF ?_
  | with_reducible refine rd_bm ?_
  | with_reducible refine rd_bm0 ?_
  | with_reducible refine rd_sfld ?_
  | with_reducible refine rd_make ?_
  | ((with_reducible refine' rd_bmL ?s ?_); (case s => walk_at "hp"))
  | ((with_reducible refine' rd_bm0L ?s ?_); (case s => walk_at "hp"))
  | ((with_reducible refine' rd_mex ?s ?l ?_); (case s => walk_at "hp"); (case l => assumption))
  | with_reducible refine rd_lc ?_
  | with_reducible refine rd_for ?_
  | with_reducible refine rd_il ?_
  | with_reducible refine rd_it ?_
  | with_reducible refine rd_ir ?_
  | with_reducible refine rd_dput ?_
  | with_reducible refine rd_dget ?_
  | ((with_reducible refine' rd_ilx ?s ?_); (case s => walk_at "hp"))
  | ((with_reducible refine' rd_itx ?s ?_); (case s => walk_at "hp"))
  | ((with_reducible refine' rd_getK ?s ?e ?_); (case s => walk_at "hp"); (case e => assumption))
  | ((with_reducible refine rd_newT rfl ?_); intro _ _ _ _ _)
  | ((with_reducible refine rd_newL rfl ?_); intro _ _ _ _ _)
  | ((with_reducible refine' rd_taken ?a ?b ?c ?_); (case a => walk_at "hp"); (case b => first | omega | decide); (case c => first | omega | decide); intro _ _ _ _ _)
  | ((with_reducible refine' rd_neE ?a ?b ?_); (case a => walk_at "hp"); (case b => walk_at "hp"))
  | ((with_reducible refine' rd_eqE ?a ?b ?_); (case a => walk_at "hp"); (case b => walk_at "hp"))
  | with_reducible refine rd_eq rfl ?_
  | with_reducible refine rd_ne rfl ?_
  | with_reducible refine rd_bl ?_
  | ((with_reducible refine rd_I ?c ?_); (case c => first | assumption | omega | decide | (exact Or.inl ⟨by omega, by omega⟩) | (exact ⟨by omega, by omega⟩) | (exact ⟨by decide, by decide, by decide⟩)))
  | refine Or.inl ⟨_, rfl, ?_⟩
  | refine Or.inr ⟨_, rfl, ?_⟩
  | ((with_reducible refine' rd_lenL ?s ?_); (case s => walk_at "hp"))
  | ((with_reducible refine' rd_lenT ?s ?_); (case s => walk_at "hp"))
  | ((with_reducible refine' rd_ixL ?s ?e ?_); (case s => walk_at "hp"); (case e => first | assumption | with_reducible exact EW.at_head | exact rfl))
  | ((with_reducible refine' rd_ixT ?s ?e ?_); (case s => walk_at "hp"); (case e => first | assumption | with_reducible exact EW.at_head | exact rfl))
  | ((with_reducible refine' rd_flx ?s ?c ?n ?l ?_); (case s => walk_at "hp"); (case c => assumption); (case n => assumption); (case l => assumption)))
local macro_rules | `(tactic| walk_at "go") => `(tactic| repeat (walk_at "st"))
local macro_rules | `(tactic| walk_at "gi") => `(tactic| repeat (first | with_reducible refine rd_if ?_ | walk_at "st"))
namespace EW
open PySem L2
theorem give {K : PySem.W.Frag} {row : Addr} {S : List Addr} {many z : Int} {H H' : Hp} {Q : VK} (k : ∀ (r : Nat) H', (r : Int) < many → RowAt K H' row S → Kp [row] H H' → Q (nV r) H') (h : 0 < many) (x : RowAt K H' row S) (y : Kp [row] H H') : Q (.int (z.fmod many)) H' := by
  have e : z.fmod many = ((z.fmod many).toNat : Int) := by
    have := fmod_nn (a := z) h
    omega
  rw [e]
  exact k _ _ (by rw [← e]; exact fmod_lt h) x y
section
variable {P : Program} {w : World} {K : PySem.W.Frag} {mg : Str → Option Value} {base : Heap}
theorem ok__law_taken {f : Addr} {fd : FuncData} (A : At K mg "_law_taken" s__law_taken ["_law_row", "_law_many"] f fd) (T : TxtB mg) : Has P w K mg base "_law_taken" ["_law_row", "_law_many"] 1 (spTaken K) := by
  refine ⟨f, fd, A.F.ok sc__law_taken (fun vs H Q EE h => ?_) (fun cdv A outer s H vs Q EE hr h => ?_), A.m, A.F.kp, A.b⟩
  · obtain ⟨_, _, _, rfl, _⟩ := h
    rfl
  obtain ⟨row, S, many, rfl, ⟨a, ns, p, m, r, hrow, hsc, har, h63, hp0, hm0, hm1⟩, hmany, hmany2, k⟩ := h
  have hS := hsc.1
  refine ⟨_, (pss_cons (ps_if (pt_cmpR op_gt (pe_ix (w_ixL (K := K) rfl) (pv 0) pe_int (fun _ _ => rfl)) pe_int (nomark _))
        (pss_cons (ps_set (i := 2) sc__law_taken.nd rfl (Or.inl rfl) (pe_op op_modN (pe_callTy call_int1 (by rfl) T.z_int (by decide +kernel) (pa_cons (pe_ix (w_ixL (K := K) rfl) (pv 0) pe_int (fun _ _ => rfl)) pa_nil)) (pv 1)))
        (pss_cons (ps_asg (pe_op op_fdivN (pe_ix (w_ixL (K := K) rfl) (pv 0) pe_int (fun _ _ => rfl)) (pv 1)) (pg_sub (pv 0) pe_int set_list))
        (pss_one (ps_ret (pv 2)))))
        pss_nil)
      (pss_cons (ps_asg (pe_op op_add (pe_ix (w_ixL (K := K) rfl) (pv 0) pe_int (fun _ _ => rfl)) pe_int) (pg_sub (pv 0) pe_int set_list))
      (pss_cons (ps_if (pt_cmpR op_gt (pe_ix (w_ixL (K := K) rfl) (pv 0) pe_int (fun _ _ => rfl)) (pe_callB (w_len (K := K) rfl) (by rfl) T.z_len PySem.boot_len (pa_cons (pe_ix (w_ixL (K := K) rfl) (pv 0) pe_int (fun _ _ => rfl)) pa_nil)) (nomark _))
        (pss_cons (ps_asg (pe_op op_modN (pe_callTy call_int1 (by rfl) T.z_int (by decide +kernel) (pa_cons (pe_op op_add (pe_op op_mul (pe_ix (w_ixL (K := K) rfl) (pv 0) pe_int (fun _ _ => rfl)) pe_int) pe_int) pa_nil)) pe_int) (pg_sub (pv 0) pe_int set_list))
        (pss_one (ps_ret (pe_op op_modN (pe_callTy call_int1 (by rfl) T.z_int (by decide +kernel) (pa_cons (pe_op op_fdivN (pe_ix (w_ixL (K := K) rfl) (pv 0) pe_int (fun _ _ => rfl)) pe_int) pa_nil)) (pv 1)))))
        pss_nil)
      (pss_cons (ps_set (i := 3) sc__law_taken.nd rfl (Or.inl rfl) (pe_ix (w_ixL (K := K) rfl) (pe_ix (w_ixL (K := K) rfl) (pv 0) pe_int (fun _ _ => rfl)) (pe_op op_sub (pe_ix (w_ixL (K := K) rfl) (pv 0) pe_int (fun _ _ => rfl)) pe_int) (fun _ _ => rfl)))
      (pss_cons (ps_asg (pe_op op_modN (pe_callTy call_int1 (by rfl) T.z_int (by decide +kernel) (pa_cons (pe_op op_add (pe_op op_add (pe_op op_mul (pe_ix (w_ixL (K := K) rfl) (pv 0) pe_int (fun _ _ => rfl)) pe_int) (pv 3)) pe_int) pa_nil)) pe_int) (pg_sub (pv 0) pe_int set_list))
      (pss_cons (ps_if (pt_cmpR op_ge (pv 3) (pe_op op_pow pe_int pe_int) (nomark _))
        (pss_one (ps_asg (pe_op op_fdivN (pv 3) (pv 1)) (pg_sub (pv 0) pe_int set_list)))
        pss_nil)
      (pss_one (ps_ret (pe_op op_modN (pe_callTy call_int1 (by rfl) T.z_int (by decide +kernel) (pa_cons (pv 3) pa_nil)) (pv 1)))))))))), ?_⟩
  refine at_st (σ' := [some (.ref row), some (.int many), none, none]) rfl ?_
  walk_at "gi"
  refine ite2 (fun c => ?_) (fun c => ?_)
  · walk_at "gi"
    refine rd_setL hrow rfl fun H1 k1 h1 => ?_
    walk_at "gi"
    exact give k hmany ⟨a, ns, p, m, _, h1, hsc.keep k1 (dis1 har), har, h63, hp0, hm0, hm1⟩ k1
  · walk_at "gi"
    refine rd_setL hrow rfl fun H1 k1 h1 => ?_
    have hS1 := (hsc.keep k1 (dis1 har)).1
    walk_at "gi"
    refine ite2 (fun c2 => ?_) (fun c2 => ?_)
    · walk_at "gi"
      refine rd_setL h1 rfl fun H2 k2 h2 => ?_
      walk_at "gi"
      exact give k hmany ⟨a, ns, p + 1, _, r, h2, (hsc.keep k1 (dis1 har)).keep k2 (dis1 har), har, h63, by omega, fmod_nn (by decide), fmod_lt (by decide)⟩ (k1.trans k2)
    · have c2' : ¬ (((ns.map V.int).length : Nat) : Int) < p + 1 := fun z => c2 (decide_eq_true z)
      rw [List.length_map] at c2'
      obtain ⟨cell, hcell⟩ : ∃ cell : Int, atI (ns.map V.int) (p + 1 - 1) = some (.int cell) := by
        have hb : p.toNat < ns.length := by omega
        refine ⟨ns[p.toNat], at_of (j := p.toNat) (by omega) ?_⟩
        rw [List.getElem?_map, List.getElem?_eq_getElem hb]
        rfl
      walk_at "gi"
      refine rd_setL h1 rfl fun H2 k2 h2 => ?_
      have hsc1 := hsc.keep k1 (dis1 har)
      have hS1 := hsc1.1
      have hsc2 := hsc1.keep k2 (dis1 har)
      have hS2 := hsc2.1
      walk_at "gi"
      refine ite2 (fun c3 => ?_) (fun c3 => ?_)
      · walk_at "gi"
        refine rd_setL h2 rfl fun H3 k3 h3 => ?_
        walk_at "gi"
        exact give k hmany ⟨a, ns, p + 1, _, _, h3, hsc2.keep k3 (dis1 har), har, h63, by omega, fmod_nn (by decide), fmod_lt (by decide)⟩ ((k1.trans k2).trans k3)
      · walk_at "gi"
        exact give k hmany ⟨a, ns, p + 1, _, r, h2, hsc2, har, h63, by omega, fmod_nn (by decide), fmod_lt (by decide)⟩ (k1.trans k2)
end
end EW

end
section
open PySem L2 EW
local macro_rules | `(tactic| walk_at "ne") => `(tactic| first
  | assumption
  | exact Ne.symm (by assumption)
  | ((with_reducible refine' EW.RowAt.newne ?n ?h); (case n => assumption); (case h => walk_at "hp"))
  | ((with_reducible refine' Ne.symm (EW.RowAt.newne ?n ?h)); (case n => assumption); (case h => walk_at "hp"))
  | ((with_reducible refine' EW.BoxAt.newne ?n ?h); (case n => assumption); (case h => walk_at "hp"))
  | ((with_reducible refine' Ne.symm (EW.BoxAt.newne ?n ?h)); (case n => assumption); (case h => walk_at "hp")))
local macro_rules | `(tactic| walk_at "ns") => `(tactic| first
  | assumption
  | exact EW.RowAt.ne (by assumption)
  | ((with_reducible refine' EW.RowAt.notin ?n ?h); (case n => assumption); (case h => walk_at "hp")))
local macro_rules | `(tactic| walk_at "ni") => `(tactic| first
  | with_reducible exact EW.ne_mem0
  | with_reducible exact EW.dis0
  | ((with_reducible refine' EW.ne_mem1 ?h); (case h => walk_at "ne"))
  | ((with_reducible refine' EW.ne_mem2 ?h ?g); (case h => walk_at "ne"); (case g => walk_at "ne"))
  | ((with_reducible refine' EW.dis1 ?h); (case h => walk_at "ns"))
  | ((with_reducible refine' EW.dis2 ?h ?g); (case h => walk_at "ns"); (case g => walk_at "ns")))
local macro_rules | `(tactic| walk_at "hp") => `(tactic| first
  | assumption
  | ((with_reducible refine' EW.RE.mono (EW.Kp.tup ?k) ?h); (case k => assumption); (case h => walk_at "hp"))
  | ((with_reducible refine' EW.Kp.tup ?k _ _ ?h); (case k => assumption); (case h => walk_at "hp"))
  | ((with_reducible refine' EW.kp_tup ?k ?h); (case k => assumption); (case h => walk_at "hp"))
  | ((with_reducible refine' EW.Kp.keep ?k _ _ ?h ?n); (case k => assumption); (case h => walk_at "hp"); (case n => walk_at "ni"))
  | ((with_reducible refine' EW.Kp.seqL ?k ?h ?n); (case k => assumption); (case h => walk_at "hp"); (case n => walk_at "ni"))
  | ((with_reducible refine' EW.RowAt.keep ?k ?h ?n1 ?n2); (case k => assumption); (case h => walk_at "hp"); (case n1 => walk_at "ni"); (case n2 => walk_at "ni"))
  | ((with_reducible refine' EW.ScAt.keep ?k ?h ?n); (case k => assumption); (case h => walk_at "hp"); (case n => walk_at "ni"))
  | ((with_reducible refine' EW.BoxAt.keep ?k ?h ?n); (case k => assumption); (case h => walk_at "hp"); (case n => walk_at "ni"))
  | ((with_reducible refine' L2.SqL.of ?h); (case h => walk_at "hp"))
  | ((with_reducible refine' L2.SqT.of ?h); (case h => walk_at "hp")))
local macro_rules | `(tactic| walk_at "sb") => `(tactic| first
  | exact EW.sub0
  | exact EW.sub_refl
  | exact EW.sub_l
  | exact EW.sub_r)
local macro_rules | `(tactic| walk_at "kp") => `(tactic| first
  | exact EW.Kp.refl
  | assumption
  | ((with_reducible refine' EW.Kp.trans ?h (EW.Kp.mono ?k ?s)); (case k => assumption); (case s => walk_at "sb"); (case h => walk_at "kp")))
local macro_rules | `(tactic| walk_at "st") => `(tactic| first
  | with_reducible refine rd_seq ?_
  | with_reducible refine rd_next ?_
  | with_reducible refine rd_asg ?_
  | with_reducible refine rd_name ?_
  | with_reducible refine rd_ret ?_
  | with_reducible refine rd_drop ?_
  | ((with_reducible refine' rd_var ?e ?_); (case e => first | with_reducible assumption | exact rfl | assumption))
  | with_reducible refine rd_c ?_
  | with_reducible refine rd_op ?_
  | with_reducible refine rd_I0 ?_
  | with_reducible refine rd_test ?_
  | with_reducible refine rd_tB ?_
  | with_reducible refine rd_not ?_
  | with_reducible refine rd_and ?_
  | with_reducible refine rd_or ?_
  | with_reducible refine rd_ifE ?_
  | with_reducible refine rd_notV ?_
  | with_reducible refine rd_andV ?_
  | with_reducible refine rd_orV ?_
  | with_reducible refine rd_cons ?_
  | with_reducible refine EW.rd_par ?_
  | with_reducible refine EW.rd_par2 ?_
  | with_reducible refine EW.rd_parT ?_
  | with_reducible refine EW.rd_par3 ?_
  | with_reducible refine rd_nil ?_
  | with_reducible refine rd_cb ?_
  | with_reducible refine rd_call ?_
  | with_reducible refine rd_meth ?_
  | with_reducible refine rd_sub ?_
  | with_reducible refine rd_fl ?_
  | with_reducible refine rd_tup ?_
  | with_reducible refine rd_lst ?_
  | with_reducible refine rd_sl ?_
  | with_reducible refine rd_part ?_
  | with_reducible refine rd_partI ?_
  | with_reducible refine rd_nopart ?_
  | with_reducible refine rd_yes ?_
  | with_reducible refine rd_dnewK ?_
  | with_reducible refine rd_dnewT ?_
  | ((with_reducible refine' rd_isT ?h ?_); (case h => walk_at "hp"))
  | with_reducible refine rd_isI ?_
  | with_reducible refine rd_isII ?_
  | with_reducible refine rd_isIB ?_
  | ((with_reducible refine' rd_sum ?h ?_); (case h => walk_at "hp"))
  | ((with_reducible refine' rd_tail ?h ?_); (case h => walk_at "hp"))
  | ((with_reducible refine rd_newO ?_); intro _ _ _ _ _)
  | ((with_reducible refine' rd_lenS ?l ?_); (case l => exact rfl))
  | ((with_reducible refine' rd_ixS ?l ?e ?_); (case l => exact rfl); (case e => first | assumption | with_reducible exact EW.at_head | exact rfl))
  | with_reducible refine EW.ite_dT (by decide +kernel) ?_
  | with_reducible refine EW.ite_dF (by decide +kernel) ?_
  | with_reducible refine EW.ite_nT (by decide +kernel) ?_
  | with_reducible refine EW.ite_nF (by decide +kernel) ?_
  | with_reducible refine EW.iteNF ?_
  | with_reducible refine EW.iteNT ?_
  | with_reducible refine EW.iteEC ?_
  | with_reducible refine EW.iteEN ?_
  | with_reducible refine EW.iteNC ?_
  | with_reducible refine EW.iteNN ?_
  | with_reducible refine EW.rd_kget (by assumption) ?_
  | with_reducible refine EW.rd_kgx (by assumption) _ ?_
  | with_reducible refine EW.rd_ixD (by assumption) _ ?_
  | with_reducible refine EW.rd_chain ?_
  | with_reducible refine L2.iteT ?_
  | with_reducible refine L2.iteF ?_
  | with_reducible refine rd_bm ?_
  | with_reducible refine rd_bm0 ?_
  | with_reducible refine rd_sfld ?_
  | with_reducible refine rd_make ?_
  | ((with_reducible refine' rd_bmL ?s ?_); (case s => walk_at "hp"))
  | ((with_reducible refine' rd_bm0L ?s ?_); (case s => walk_at "hp"))
  | ((with_reducible refine' rd_mex ?s ?l ?_); (case s => walk_at "hp"); (case l => assumption))
  | with_reducible refine rd_lc ?_
  | with_reducible refine rd_for ?_
  | with_reducible refine rd_il ?_
  | with_reducible refine rd_it ?_
  | with_reducible refine rd_ir ?_
  | with_reducible refine rd_dput ?_
  | with_reducible refine rd_dget ?_
  | ((with_reducible refine' rd_ilx ?s ?_); (case s => walk_at "hp"))
  | ((with_reducible refine' rd_itx ?s ?_); (case s => walk_at "hp"))
  | ((with_reducible refine' rd_getK ?s ?e ?_); (case s => walk_at "hp"); (case e => assumption))
  | ((with_reducible refine rd_newT rfl ?_); intro _ _ _ _ _)
  | ((with_reducible refine rd_newL rfl ?_); intro _ _ _ _ _)
  | ((with_reducible refine' rd_taken ?a ?b ?c ?_); (case a => walk_at "hp"); (case b => first | omega | decide); (case c => first | omega | decide); intro _ _ _ _ _)
  | ((with_reducible refine' rd_neE ?a ?b ?_); (case a => walk_at "hp"); (case b => walk_at "hp"))
  | ((with_reducible refine' rd_eqE ?a ?b ?_); (case a => walk_at "hp"); (case b => walk_at "hp"))
  | with_reducible refine rd_eq rfl ?_
  | with_reducible refine rd_ne rfl ?_
  | with_reducible refine rd_bl ?_
  | ((with_reducible refine rd_I ?c ?_); (case c => first | assumption | omega | decide | (exact Or.inl ⟨by omega, by omega⟩) | (exact ⟨by omega, by omega⟩) | (exact ⟨by decide, by decide, by decide⟩)))
  | refine Or.inl ⟨_, rfl, ?_⟩
  | refine Or.inr ⟨_, rfl, ?_⟩
  | ((with_reducible refine' rd_lenL ?s ?_); (case s => walk_at "hp"))
  | ((with_reducible refine' rd_lenT ?s ?_); (case s => walk_at "hp"))
  | ((with_reducible refine' rd_ixL ?s ?e ?_); (case s => walk_at "hp"); (case e => first | assumption | with_reducible exact EW.at_head | exact rfl))
  | ((with_reducible refine' rd_ixT ?s ?e ?_); (case s => walk_at "hp"); (case e => first | assumption | with_reducible exact EW.at_head | exact rfl))
  | ((with_reducible refine' rd_flx ?s ?c ?n ?l ?_); (case s => walk_at "hp"); (case c => assumption); (case n => assumption); (case l => assumption)))
local macro_rules | `(tactic| walk_at "go") => `(tactic| repeat (walk_at "st"))
local macro_rules | `(tactic| walk_at "gi") => `(tactic| repeat (first | with_reducible refine rd_if ?_ | walk_at "st"))
namespace EW
open PySem L2
theorem nodup_keys {ps : List (Nat × Int)} (h : (ps.map (·.1)).Nodup) : ps.length ≤ 10 ∨ ∃ p ∈ ps, ¬ p.1 < 10 := by
  by_cases q : ∃ p ∈ ps, ¬ p.1 < 10
  · exact .inr q
  · refine .inl ?_
    have := few_nats 10 (ps.map (·.1)) h fun x hx => by
      obtain ⟨p, hp, rfl⟩ := List.mem_map.mp hx
      exact Decidable.byContradiction fun z => q ⟨p, hp, z⟩
    simpa using this
theorem sc_len {ps : List (Nat × Int)} {B : List Nat} (h : ∀ p ∈ ps, p.1 < 10 ∧ p.1 ∈ B) (n : (ps.map (·.1)).Nodup) : ps.length ≤ 10 := by
  rcases nodup_keys n with q | ⟨p, hp, hn⟩
  · exact q
  · exact absurd (h p hp).1 hn
/-- the dict of names as the layer's pairs -/
def kvI (ps : List (Nat × Int)) : List (Key × V) := ps.map fun p => (Sum.inl (p.1 : Int), V.int p.2)
theorem kvI_look : ∀ {ps : List (Nat × Int)} {k : Nat}, k ∈ ps.map (·.1) → ∃ z : Int, valV (kvI ps) (Sum.inl (k : Int)) = some (V.int z)
  | [], _, h => by cases h
  | p :: r, k, h => by
    by_cases e : p.1 = k
    · exact ⟨p.2, by unfold kvI; rw [List.map_cons, valV_pos (by rw [e])]⟩
    · rw [List.map_cons, List.mem_cons] at h
      rcases h with h | h
      · exact absurd h.symm e
      · obtain ⟨z, hz⟩ := kvI_look h
        exact ⟨z, by unfold kvI; rw [List.map_cons, valV_neg (fun q => e (by exact Int.ofNat.inj (Sum.inl.inj q)))]; exact hz⟩
theorem sc_put {H : Hp} {p : Addr} {ps : List (Nat × Int)} {B : List Nat} {n : Nat} {z : Int} (h : H p = some (.dK (putK (ps.map fun p => (Sum.inl (p.1 : Int), V.int p.2)) (Sum.inl (n : Int)) (.int z))))
    (hps : ∀ p ∈ ps, p.1 < 10 ∧ p.1 ∈ B) (hnd : (ps.map (·.1)).Nodup) (hk : n < 10) : ScAt H p (B ++ [n]) := by
  by_cases hm : n ∈ ps.map (·.1)
  · refine ⟨ps.map fun q => if q.1 = n then (q.1, z) else q, ?_, fun q hq => ?_, ?_⟩
    · rw [h]
      have h' : ((ps.map fun p => ((Sum.inl (p.1 : Int) : Key), V.int p.2)).any fun kv => decide (kv.1 = Sum.inl (n : Int))) = true := by
        obtain ⟨q, hq, e⟩ := List.mem_map.mp hm
        exact List.any_eq_true.mpr ⟨_, List.mem_map.mpr ⟨q, hq, rfl⟩, decide_eq_true (by rw [e])⟩
      unfold putK
      rw [if_pos h', List.map_map, List.map_map]
      refine congrArg some (congrArg HO.dK (List.map_congr_left fun q _ => ?_))
      show (if (Sum.inl (q.1 : Int) : Key) = Sum.inl (n : Int) then ((Sum.inl (q.1 : Int) : Key), V.int z) else (Sum.inl (q.1 : Int), V.int q.2)) = (Sum.inl (((if q.1 = n then (q.1, z) else q).1 : Nat) : Int), V.int (if q.1 = n then (q.1, z) else q).2)
      by_cases e : q.1 = n
      · rw [if_pos e, if_pos (by rw [e])]
      · rw [if_neg e, if_neg (show ¬ (Sum.inl (q.1 : Int) : Key) = Sum.inl (n : Int) from fun z => e (Int.ofNat.inj (Sum.inl.inj z)))]
    · obtain ⟨q', hq', rfl⟩ := List.mem_map.mp hq
      have := hps q' hq'
      have e : (if q'.1 = n then (q'.1, z) else q').1 = q'.1 := by split <;> rfl
      rw [e]
      exact ⟨this.1, List.mem_append.mpr (.inl this.2)⟩
    · have e : (ps.map fun q => if q.1 = n then (q.1, z) else q).map (·.1) = ps.map (·.1) := by
        rw [List.map_map]
        refine List.map_congr_left fun q _ => ?_
        show (if q.1 = n then (q.1, z) else q).1 = q.1
        split <;> rfl
      rw [e]
      exact hnd
  · refine ⟨ps ++ [(n, z)], ?_, fun q hq => ?_, ?_⟩
    · rw [h, putK_new]
      · rw [List.map_append] <;> rfl
      · cases e : valV (ps.map fun p => ((Sum.inl (p.1 : Int) : Key), V.int p.2)) (Sum.inl (n : Int)) with
        | none => rfl
        | some v =>
          have := valV_in e
          rw [List.map_map] at this
          obtain ⟨q, hq, e2⟩ := List.mem_map.mp this
          exact absurd (List.mem_map.mpr ⟨q, hq, Int.ofNat.inj (Sum.inl.inj e2)⟩) hm
    · rcases List.mem_append.mp hq with q1 | q1
      · have := hps q q1
        exact ⟨this.1, List.mem_append.mpr (.inl this.2)⟩
      · rw [List.mem_singleton.mp q1]
        exact ⟨hk, List.mem_append.mpr (.inr List.mem_cons_self)⟩
    · rw [List.map_append]
      exact nd_snoc hnd hm
/-- a new list of names of B -/
def spNames : Sp := fun vs H Q _ => ∃ (c : Addr) (want : Int) (B : List Nat), vs = [.ref c, .int want] ∧ ScAt H c B ∧
  ∀ (ks : List Nat) (p : Addr) H', (∀ k ∈ ks, k < 10 ∧ k ∈ B) → ks.length ≤ 10 → H p = none → Kp [] H H' → H' p = some (.lst (ks.map nV)) → Q (.ref p) H'
def spBound : Sp := fun vs H Q _ => ∃ (c : Addr) (k : Nat) (z : Int) (B : List Nat), vs = [.ref c, .int (k : Int), .int z] ∧ ScAt H c B ∧ k < 10 ∧
  ∀ (p : Addr) H', H p = none → Kp [] H H' → ScAt H' p (B ++ [k]) → Q (.ref p) H'
section
variable {P : Program} {w : World} {K : PySem.W.Frag} {mg : Str → Option Value} {base : Heap}
theorem ok__law_names {f : Addr} {fd : FuncData} (A : At K mg "_law_names" s__law_names ["_law_scope", "_law_want"] f fd) (T : TxtB mg) : Has P w K mg base "_law_names" ["_law_scope", "_law_want"] 1 spNames := by
  refine ⟨f, fd, A.F.ok sc__law_names (fun vs H Q EE h => ?_) (fun cdv A outer s H vs Q EE hr h => ?_), A.m, A.F.kp, A.b⟩
  · obtain ⟨_, _, _, rfl, _⟩ := h
    rfl
  obtain ⟨c, want, B, rfl, ⟨ps, hc, hps, hnd⟩, k⟩ := h
  have hu := hu_of hr
  have hl := sc_len hps hnd
  refine ⟨_, (pss_one (ps_ret (pe_lc (own := [("_law_name", 2)]) (g := (gName 2)) (tt := _) rfl sc__law_names.nd (w_piL (K := K) rfl (pe_callB (cr_sortDI rfl) (by rfl) T.z_sorted (by decide +kernel) (pa_cons (pv 0) pa_nil))) (blkOk_by (own := [("_law_name", 2)]) (N := N__law_names) (sc := defScope s__law_names) (by decide +kernel)) (fun _ _ _ _ _ => (pg_name (i := 2) sc__law_names.nd rfl (Or.inl rfl))) (fun _ _ _ _ _ => pts_one (pt_cmpR op_eq (pe_dget hu (pv 0) (pv 2) (fun _ _ => rfl)) (pv 1) (nomark _))) (fun _ _ _ _ _ => (pv 2))))), ?_⟩
  refine at_st (σ' := [some (.ref c), some (.int want), none]) rfl ?_
  walk_at "go"
  refine rd_sortDI (ks := ps.map fun p => (p.1 : Int)) hc ?_ ?_ fun ns' hperm hsort => rd_newO fun p H1 hp k1 h1 => ?_
  · rw [List.map_map, List.map_map]; rfl
  · rw [List.length_map]; omega
  walk_at "go"
  intro D hD
  have hm : ∀ x ∈ ns', ∃ k : Nat, x = (k : Int) ∧ k ∈ ps.map (·.1) := fun x hx => by
    obtain ⟨q, hq, rfl⟩ := List.mem_map.mp (hperm.mem_iff.mp hx)
    exact ⟨q.1, rfl, List.mem_map.mpr ⟨q, hq, rfl⟩⟩
  refine lc_J (M := []) (fun l acc _ => ∃ ks : List Nat, acc = ks.map nV ∧ ∀ k ∈ ks, k < 10 ∧ k ∈ B) (fun _ _ _ _ _ h => h) hD (fun _ h => nomatch h) (SqL.of h1) (fun h => nomatch h) (by rw [List.length_map, hperm.length_eq, List.length_map]; omega) ⟨[], rfl, fun _ h => nomatch h⟩ ?_ ?_
  · intro l x r acc H' e ⟨ks, hks, hall⟩ k' hlen hacc Qy Qn qy qn
    obtain ⟨i, hi, rfl⟩ : ∃ i ∈ ns', V.int i = x := List.mem_map.mp (by rw [e]; simp)
    obtain ⟨n, rfl, hn⟩ := hm i hi
    obtain ⟨z, hz⟩ := kvI_look hn
    have hc' : H' c = some (.dK (kvI ps)) := k'.keep _ _ (k1.keep _ _ hc (fun h => nomatch h)) (fun h => nomatch h)
    walk_at "go"
    refine ⟨rfl, ?_⟩
    walk_at "go"
    refine ite2 (fun cc => ?_) (fun cc => ?_)
    · walk_at "go"
      refine qy _ _ Kp.refl ⟨ks ++ [n], by rw [hks, List.map_append] <;> rfl, fun j hj => ?_⟩
      rcases List.mem_append.mp hj with hj | hj
      · exact hall j hj
      · rw [List.mem_singleton.mp hj]
        obtain ⟨q, hq, e2⟩ := List.mem_map.mp hn
        rw [← e2]
        exact hps q hq
    · exact qn _ Kp.refl ⟨ks, hks, hall⟩
  · intro acc H' ⟨ks, hks, hall⟩ k' hacc hlen
    rw [List.length_map, hperm.length_eq, List.length_map] at hlen
    subst hks
    rw [List.length_map] at hlen
    exact k ks D H' hall (by omega) (k1.free hD) (k1.trans k') hacc
theorem ok__law_bound {f : Addr} {fd : FuncData} (A : At K mg "_law_bound" s__law_bound ["_law_scope", "_law_name", "_law_sort"] f fd) (T : TxtB mg) : Has P w K mg base "_law_bound" ["_law_scope", "_law_name", "_law_sort"] 1 spBound := by
  refine ⟨f, fd, A.F.ok sc__law_bound (fun vs H Q EE h => ?_) (fun cdv A outer s H vs Q EE hr h => ?_), A.m, A.F.kp, A.b⟩
  · obtain ⟨_, _, _, _, rfl, _⟩ := h
    rfl
  obtain ⟨c, nm, z, B, rfl, ⟨ps, hc, hps, hnd⟩, hk, k⟩ := h
  have hu := hu_of hr
  have hl := sc_len hps hnd
  refine ⟨_, (pss_cons (ps_set (i := 3) sc__law_bound.nd rfl (Or.inl rfl) (pe_callTy call_dict_copy (by rfl) T.z_dict (by decide +kernel) (pa_cons (pv 0) pa_nil)))
      (pss_cons (ps_dput hu (pv 3) (pv 1) (pv 2) rfl)
      (pss_one (ps_ret (pv 3))))), ?_⟩
  refine at_st (σ' := [some (.ref c), some (.int (nm : Int)), some (.int z), none]) rfl ?_
  walk_at "go"
  refine rd_dcopy hc (rd_newO fun p H1 hp k1 h1 => ?_)
  walk_at "go"
  refine rd_putK h1 (by rw [List.length_map]; omega) fun H2 k2 h2 => ?_
  walk_at "go"
  refine k p H2 hp (k1.chg hp k2) (sc_put h2 hps hnd hk)
theorem rd_names {H : Hp} {c : Addr} {want : Int} {B : List Nat} {Q : VK} {EE : XK} (h : ScAt H c B) (k : ∀ (ks : List Nat) (p : Addr) H', (∀ k ∈ ks, k < 10 ∧ k ∈ B) → ks.length ≤ 10 → H p = none → Kp [] H H' → H' p = some (.lst (ks.map nV)) → Q (.ref p) H') :
    spNames ([.ref c, .int want] ++ []) H Q EE := ⟨c, want, B, rfl, h, k⟩
theorem rd_bound {H : Hp} {c : Addr} {n : Nat} {z : Int} {B : List Nat} {Q : VK} {EE : XK} (h : ScAt H c B) (hn : n < 10) (k : ∀ (p : Addr) H', H p = none → Kp [] H H' → ScAt H' p (B ++ [n]) → Q (.ref p) H') :
    spBound ([.ref c, .int (n : Int), .int z] ++ []) H Q EE := ⟨c, n, z, B, rfl, h, hn, k⟩
end
end EW

end
section
open PySem L2 EW
local macro_rules | `(tactic| walk_at "ne") => `(tactic| first
  | assumption
  | exact Ne.symm (by assumption)
  | ((with_reducible refine' EW.RowAt.newne ?n ?h); (case n => assumption); (case h => walk_at "hp"))
  | ((with_reducible refine' Ne.symm (EW.RowAt.newne ?n ?h)); (case n => assumption); (case h => walk_at "hp"))
  | ((with_reducible refine' EW.BoxAt.newne ?n ?h); (case n => assumption); (case h => walk_at "hp"))
  | ((with_reducible refine' Ne.symm (EW.BoxAt.newne ?n ?h)); (case n => assumption); (case h => walk_at "hp")))
local macro_rules | `(tactic| walk_at "ns") => `(tactic| first
  | assumption
  | exact EW.RowAt.ne (by assumption)
  | ((with_reducible refine' EW.RowAt.notin ?n ?h); (case n => assumption); (case h => walk_at "hp")))
local macro_rules | `(tactic| walk_at "ni") => `(tactic| first
  | with_reducible exact EW.ne_mem0
  | with_reducible exact EW.dis0
  | ((with_reducible refine' EW.ne_mem1 ?h); (case h => walk_at "ne"))
  | ((with_reducible refine' EW.ne_mem2 ?h ?g); (case h => walk_at "ne"); (case g => walk_at "ne"))
  | ((with_reducible refine' EW.dis1 ?h); (case h => walk_at "ns"))
  | ((with_reducible refine' EW.dis2 ?h ?g); (case h => walk_at "ns"); (case g => walk_at "ns")))
local macro_rules | `(tactic| walk_at "hp") => `(tactic| first
  | assumption
  | ((with_reducible refine' EW.RE.mono (EW.Kp.tup ?k) ?h); (case k => assumption); (case h => walk_at "hp"))
  | ((with_reducible refine' EW.Kp.tup ?k _ _ ?h); (case k => assumption); (case h => walk_at "hp"))
  | ((with_reducible refine' EW.kp_tup ?k ?h); (case k => assumption); (case h => walk_at "hp"))
  | ((with_reducible refine' EW.Kp.keep ?k _ _ ?h ?n); (case k => assumption); (case h => walk_at "hp"); (case n => walk_at "ni"))
  | ((with_reducible refine' EW.Kp.seqL ?k ?h ?n); (case k => assumption); (case h => walk_at "hp"); (case n => walk_at "ni"))
  | ((with_reducible refine' EW.RowAt.keep ?k ?h ?n1 ?n2); (case k => assumption); (case h => walk_at "hp"); (case n1 => walk_at "ni"); (case n2 => walk_at "ni"))
  | ((with_reducible refine' EW.ScAt.keep ?k ?h ?n); (case k => assumption); (case h => walk_at "hp"); (case n => walk_at "ni"))
  | ((with_reducible refine' EW.BoxAt.keep ?k ?h ?n); (case k => assumption); (case h => walk_at "hp"); (case n => walk_at "ni"))
  | ((with_reducible refine' L2.SqL.of ?h); (case h => walk_at "hp"))
  | ((with_reducible refine' L2.SqT.of ?h); (case h => walk_at "hp")))
local macro_rules | `(tactic| walk_at "sb") => `(tactic| first
  | exact EW.sub0
  | exact EW.sub_refl
  | exact EW.sub_l
  | exact EW.sub_r)
local macro_rules | `(tactic| walk_at "kp") => `(tactic| first
  | exact EW.Kp.refl
  | assumption
  | ((with_reducible refine' EW.Kp.trans ?h (EW.Kp.mono ?k ?s)); (case k => assumption); (case s => walk_at "sb"); (case h => walk_at "kp")))
local macro_rules | `(tactic| walk_at "st") => `(tactic| first
  | with_reducible refine rd_seq ?_
  | with_reducible refine rd_next ?_
  | with_reducible refine rd_asg ?_
  | with_reducible refine rd_name ?_
  | with_reducible refine rd_ret ?_
  | with_reducible refine rd_drop ?_
  | ((with_reducible refine' rd_var ?e ?_); (case e => first | with_reducible assumption | exact rfl | assumption))
  | with_reducible refine rd_c ?_
  | with_reducible refine rd_op ?_
  | with_reducible refine rd_I0 ?_
  | with_reducible refine rd_test ?_
  | with_reducible refine rd_tB ?_
  | with_reducible refine rd_not ?_
  | with_reducible refine rd_and ?_
  | with_reducible refine rd_or ?_
  | with_reducible refine rd_ifE ?_
  | with_reducible refine rd_notV ?_
  | with_reducible refine rd_andV ?_
  | with_reducible refine rd_orV ?_
  | with_reducible refine rd_cons ?_
  | with_reducible refine EW.rd_par ?_
  | with_reducible refine EW.rd_par2 ?_
  | with_reducible refine EW.rd_parT ?_
  | with_reducible refine EW.rd_par3 ?_
  | with_reducible refine rd_nil ?_
  | with_reducible refine rd_cb ?_
  | with_reducible refine rd_call ?_
  | with_reducible refine rd_meth ?_
  | with_reducible refine rd_sub ?_
  | with_reducible refine rd_fl ?_
  | with_reducible refine rd_tup ?_
  | with_reducible refine rd_lst ?_
  | with_reducible refine rd_sl ?_
  | with_reducible refine rd_part ?_
  | with_reducible refine rd_partI ?_
  | with_reducible refine rd_nopart ?_
  | with_reducible refine rd_yes ?_
  | with_reducible refine rd_dnewK ?_
  | with_reducible refine rd_dnewT ?_
  | ((with_reducible refine' rd_isT ?h ?_); (case h => walk_at "hp"))
  | with_reducible refine rd_isI ?_
  | with_reducible refine rd_isII ?_
  | with_reducible refine rd_isIB ?_
  | ((with_reducible refine' rd_sum ?h ?_); (case h => walk_at "hp"))
  | ((with_reducible refine' rd_tail ?h ?_); (case h => walk_at "hp"))
  | ((with_reducible refine rd_newO ?_); intro _ _ _ _ _)
  | ((with_reducible refine' rd_lenS ?l ?_); (case l => exact rfl))
  | ((with_reducible refine' rd_ixS ?l ?e ?_); (case l => exact rfl); (case e => first | assumption | with_reducible exact EW.at_head | exact rfl))
  | with_reducible refine EW.ite_dT (by decide +kernel) ?_
  | with_reducible refine EW.ite_dF (by decide +kernel) ?_
  | with_reducible refine EW.ite_nT (by decide +kernel) ?_
  | with_reducible refine EW.ite_nF (by decide +kernel) ?_
  | with_reducible refine EW.iteNF ?_
  | with_reducible refine EW.iteNT ?_
  | with_reducible refine EW.iteEC ?_
  | with_reducible refine EW.iteEN ?_
  | with_reducible refine EW.iteNC ?_
  | with_reducible refine EW.iteNN ?_
  | with_reducible refine EW.rd_kget (by assumption) ?_
  | with_reducible refine EW.rd_kgx (by assumption) _ ?_
  | with_reducible refine EW.rd_ixD (by assumption) _ ?_
  | with_reducible refine EW.rd_chain ?_
  | with_reducible refine L2.iteT ?_
  | with_reducible refine L2.iteF ?_
  | with_reducible refine rd_bm ?_
  | with_reducible refine rd_bm0 ?_
  | with_reducible refine rd_sfld ?_
  | with_reducible refine rd_make ?_
  | ((with_reducible refine' rd_bmL ?s ?_); (case s => walk_at "hp"))
  | ((with_reducible refine' rd_bm0L ?s ?_); (case s => walk_at "hp"))
  | ((with_reducible refine' rd_mex ?s ?l ?_); (case s => walk_at "hp"); (case l => assumption))
  | with_reducible refine rd_lc ?_
  | with_reducible refine rd_for ?_
  | with_reducible refine rd_il ?_
  | with_reducible refine rd_it ?_
  | with_reducible refine rd_ir ?_
  | with_reducible refine rd_dput ?_
  | with_reducible refine rd_dget ?_
  | ((with_reducible refine' rd_ilx ?s ?_); (case s => walk_at "hp"))
  | ((with_reducible refine' rd_itx ?s ?_); (case s => walk_at "hp"))
  | ((with_reducible refine' rd_getK ?s ?e ?_); (case s => walk_at "hp"); (case e => assumption))
  | ((with_reducible refine rd_newT rfl ?_); intro _ _ _ _ _)
  | ((with_reducible refine rd_newL rfl ?_); intro _ _ _ _ _)
  | ((with_reducible refine' rd_taken ?a ?b ?c ?_); (case a => walk_at "hp"); (case b => first | omega | decide); (case c => first | omega | decide); intro _ _ _ _ _)
  | ((with_reducible refine' rd_neE ?a ?b ?_); (case a => walk_at "hp"); (case b => walk_at "hp"))
  | ((with_reducible refine' rd_eqE ?a ?b ?_); (case a => walk_at "hp"); (case b => walk_at "hp"))
  | with_reducible refine rd_eq rfl ?_
  | with_reducible refine rd_ne rfl ?_
  | with_reducible refine rd_bl ?_
  | ((with_reducible refine rd_I ?c ?_); (case c => first | assumption | omega | decide | (exact Or.inl ⟨by omega, by omega⟩) | (exact ⟨by omega, by omega⟩) | (exact ⟨by decide, by decide, by decide⟩)))
  | refine Or.inl ⟨_, rfl, ?_⟩
  | refine Or.inr ⟨_, rfl, ?_⟩
  | ((with_reducible refine' rd_lenL ?s ?_); (case s => walk_at "hp"))
  | ((with_reducible refine' rd_lenT ?s ?_); (case s => walk_at "hp"))
  | ((with_reducible refine' rd_ixL ?s ?e ?_); (case s => walk_at "hp"); (case e => first | assumption | with_reducible exact EW.at_head | exact rfl))
  | ((with_reducible refine' rd_ixT ?s ?e ?_); (case s => walk_at "hp"); (case e => first | assumption | with_reducible exact EW.at_head | exact rfl))
  | ((with_reducible refine' rd_flx ?s ?c ?n ?l ?_); (case s => walk_at "hp"); (case c => assumption); (case n => assumption); (case l => assumption)))
local macro_rules | `(tactic| walk_at "go") => `(tactic| repeat (walk_at "st"))
local macro_rules | `(tactic| walk_at "gi") => `(tactic| repeat (first | with_reducible refine rd_if ?_ | walk_at "st"))
namespace EW
open PySem L2
/-- a small expression of the names B -/
def spLeaf (K : PySem.W.Frag) : Sp := fun vs H Q _ => ∃ (row c : Addr) (S : List Addr) (want : Int) (B : List Nat), vs = [.ref row, .ref c, .int want] ∧ RowAt K H row S ∧ ScAt H c B ∧ c ≠ row ∧
  ∀ (e : E) (v : V) H', e.Wf B → e.depth ≤ 2 → RE H' e v → RowAt K H' row S → Kp [row] H H' → Q v H'
section
variable {P : Program} {w : World} {K : PySem.W.Frag} {mg : Str → Option Value} {base : Heap}
theorem ok__law_leaf {f : Addr} {fd : FuncData} (A : At K mg "_law_leaf" s__law_leaf ["_law_row", "_law_scope", "_law_want"] f fd) (T : TxtB mg)
    (c__law_taken : Has P w K mg base "_law_taken" ["_law_row", "_law_many"] 1 (spTaken K)) (c__law_names : Has P w K mg base "_law_names" ["_law_scope", "_law_want"] 1 spNames)
    (c__law_bound : Has P w K mg base "_law_bound" ["_law_scope", "_law_name", "_law_sort"] 1 spBound) : Has P w K mg base "_law_leaf" ["_law_row", "_law_scope", "_law_want"] 2 (spLeaf K) := by
  obtain ⟨f__law_taken, fd__law_taken, G__law_taken, m__law_taken, k__law_taken, b__law_taken⟩ := c__law_taken
  obtain ⟨f__law_names, fd__law_names, G__law_names, m__law_names, k__law_names, b__law_names⟩ := c__law_names
  obtain ⟨f__law_bound, fd__law_bound, G__law_bound, m__law_bound, k__law_bound, b__law_bound⟩ := c__law_bound
  refine ⟨f, fd, A.F.ok sc__law_leaf (fun vs H Q EE h => ?_) (fun cdv A outer s H vs Q EE hr h => ?_), A.m, A.F.kp, A.b⟩
  · obtain ⟨_, _, _, _, _, rfl, _⟩ := h
    rfl
  obtain ⟨row, c, S, want, B, rfl, hrow, hc, hcr, k⟩ := h
  refine ⟨_, (pss_cons (ps_set (i := 3) sc__law_leaf.nd rfl (Or.inl rfl) (pe_call G__law_names (hr.mono (by first | decide | omega)) (by rfl) m__law_names k__law_names b__law_names .nil pass0 (pa_cons (pv 1) (pa_cons (pv 2) pa_nil))))
      (pss_cons (ps_if (PW.pt (pw_and (pt_cmpR (op_neE hr.units0) (pv 3) (pe_lst pa_nil) (nomark _)) (pw_and1 (pt_cmpR op_gt (pe_call G__law_taken (hr.mono (by first | decide | omega)) (by rfl) m__law_taken k__law_taken b__law_taken .nil pass0 (pa_cons (pv 0) (pa_cons pe_int pa_nil))) pe_int (nomark _)))))
        (pss_one (ps_ret (pe_tup (pa_cons pe_str (pa_cons (pe_ix (w_ixL (K := K) rfl) (pv 3) (pe_call G__law_taken (hr.mono (by first | decide | omega)) (by rfl) m__law_taken k__law_taken b__law_taken .nil pass0 (pa_cons (pv 0) (pa_cons (pe_callB (w_len (K := K) rfl) (by rfl) T.z_len PySem.boot_len (pa_cons (pv 3) pa_nil)) pa_nil))) (fun _ _ => rfl)) pa_nil)))))
        pss_nil)
      (pss_cons (ps_set (i := 4) sc__law_leaf.nd rfl (Or.inl rfl) (pe_call G__law_taken (hr.mono (by first | decide | omega)) (by rfl) m__law_taken k__law_taken b__law_taken .nil pass0 (pa_cons (pv 0) (pa_cons pe_int pa_nil))))
      (pss_cons (ps_set (i := 5) sc__law_leaf.nd rfl (Or.inl rfl) (pe_call G__law_bound (hr.mono (by first | decide | omega)) (by rfl) m__law_bound k__law_bound b__law_bound .nil pass0 (pa_cons (pv 1) (pa_cons (pv 4) (pa_cons (pe_callTy call_int1 (by rfl) T.z_int (by decide +kernel) (pa_cons (pe_cmpR op_eq (pv 2) pe_int (nomark _)) pa_nil)) pa_nil)))))
      (pss_cons (ps_if (pt_cmpR op_eq (pv 2) pe_int (nomark _))
        (pss_one (ps_ret (pe_tup (pa_cons pe_str (pa_cons (pe_call G__law_taken (hr.mono (by first | decide | omega)) (by rfl) m__law_taken k__law_taken b__law_taken .nil pass0 (pa_cons (pv 0) (pa_cons (pe_ix (w_ixL (K := K) rfl) (pe_lst (pa_cons pe_int (pa_cons pe_int pa_nil))) (pe_call G__law_taken (hr.mono (by first | decide | omega)) (by rfl) m__law_taken k__law_taken b__law_taken .nil pass0 (pa_cons (pv 0) (pa_cons pe_int pa_nil))) (fun _ _ => rfl)) pa_nil))) pa_nil)))))
        pss_nil)
      (pss_cons (ps_if (pt_cmpR op_eq (pv 2) pe_int (nomark _))
        (pss_one (ps_ret (pe_tup (pa_cons pe_str (pa_cons (pv 4) (pa_cons (pe_tup (pa_cons pe_str (pa_cons (pe_call G__law_taken (hr.mono (by first | decide | omega)) (by rfl) m__law_taken k__law_taken b__law_taken .nil pass0 (pa_cons (pv 0) (pa_cons pe_int pa_nil))) (pa_cons (pe_tup (pa_cons pe_str (pa_cons (pe_call G__law_taken (hr.mono (by first | decide | omega)) (by rfl) m__law_taken k__law_taken b__law_taken .nil pass0 (pa_cons (pv 0) (pa_cons pe_int pa_nil))) pa_nil))) pa_nil)))) pa_nil))))))
        pss_nil)
      (pss_cons (ps_set (i := 6) sc__law_leaf.nd rfl (Or.inl rfl) (pe_call G__law_names (hr.mono (by first | decide | omega)) (by rfl) m__law_names k__law_names b__law_names .nil pass0 (pa_cons (pv 5) (pa_cons pe_int pa_nil))))
      (pss_cons (ps_set (i := 7) sc__law_leaf.nd rfl (Or.inl rfl) (pe_ifExp (pt_cmpR (op_neE hr.units0) (pv 6) (pe_lst pa_nil) (nomark _)) (pe_tup (pa_cons pe_str (pa_cons (pe_ix (w_ixL (K := K) rfl) (pv 6) (pe_call G__law_taken (hr.mono (by first | decide | omega)) (by rfl) m__law_taken k__law_taken b__law_taken .nil pass0 (pa_cons (pv 0) (pa_cons (pe_callB (w_len (K := K) rfl) (by rfl) T.z_len PySem.boot_len (pa_cons (pv 6) pa_nil)) pa_nil))) (fun _ _ => rfl)) pa_nil))) (pe_tup (pa_cons pe_str (pa_cons pe_int pa_nil)))))
      (pss_one (ps_ret (pe_tup (pa_cons pe_str (pa_cons (pv 4) (pa_cons (pe_ifExp (pt_cmpR op_eq (pv 2) pe_int (nomark _)) (pe_tup (pa_cons pe_str (pa_cons (pv 7) (pa_cons (pe_tup (pa_cons pe_str (pa_cons (pe_call G__law_taken (hr.mono (by first | decide | omega)) (by rfl) m__law_taken k__law_taken b__law_taken .nil pass0 (pa_cons (pv 0) (pa_cons pe_int pa_nil))) pa_nil))) pa_nil)))) (pv 7)) pa_nil)))))))))))))), ?_⟩
  refine at_st (σ' := [some (.ref row), some (.ref c), some (.int want), none, none, none, none, none]) rfl ?_
  walk_at "go"
  refine rd_names hc fun ks p1 H1 hks hkl hp1 k1 h1 => ?_
  walk_at "go"
  have hlen : (ks.map nV).length = ks.length := List.length_map _
  refine rd_ifJ (fun H2 => Kp [row] H H2 ∧ RowAt K H2 row S ∧ ScAt H2 c B) ?_ fun Z hZ => ?_
  · intro H2 ⟨k2, hrow2, hc2⟩
    walk_at "go"
    rename_i nm H3 hnm hrow3 k3
    refine rd_bound (B := B) (by walk_at "hp") (by omega) fun p5 H5 hp5 k5 hc5 => ?_
    walk_at "go"
    have hcr5 : p5 ≠ row := by walk_at "ne"
    have hnm' : nm < 10 := by omega
    refine rd_ifJ (fun H6 => H5 = H6) ?_ fun Z hZ => ?_
    · rintro _ rfl
      walk_at "go"
      refine rd_ifJ (fun H6 => H5 = H6) ?_ fun Z hZ => ?_
      · rintro _ rfl
        walk_at "go"
        refine rd_names hc5 fun ms p6 H6 hms hml hp6 k6 h6 => ?_
        have hlen : (ms.map nV).length = ms.length := List.length_map _
        walk_at "st"
        walk_at "st"
        refine rd_asgJ (fun v H7 => ∃ eb : E, eb.Wf (B ++ [nm]) ∧ eb.depth = 0 ∧ RE H7 eb v ∧ RowAt K H7 row S ∧ Kp [row] H6 H7) ?_ fun Z hZ => ?_
        · rintro vb H7 ⟨eb, wb, db, rb, hrow7, k7⟩
          walk_at "go"
          refine ite2 (fun cc => ?_) (fun cc => ?_)
          · walk_at "go"
            rename_i r9 H9 h9 hrow9 k9 _ _ _ _ _ _ _ _ _ _ _ _ _ _ _
            exact k (.fn nm (.plus eb (.num r9))) _ _ ⟨hnm', wb, by show r9 < 1000; omega⟩ (by show 1 + (1 + max eb.depth 0) ≤ 2; omega) ⟨_, _, rfl, by assumption, ⟨_, _, _, rfl, by walk_at "hp", by walk_at "hp", ⟨_, rfl, by walk_at "hp"⟩⟩⟩ (by walk_at "hp") (by walk_at "kp")
          · walk_at "go"
            exact k (.fn nm eb) _ _ ⟨hnm', wb⟩ (by show 1 + eb.depth ≤ 2; omega) ⟨_, _, rfl, by assumption, by walk_at "hp"⟩ (by walk_at "hp") (by walk_at "kp")
        · walk_at "go"
          refine ite2 (fun cc => ?_) (fun cc => ?_)
          · have hpos : 0 < ms.length := by
              cases ms with
              | nil => cases cc
              | cons _ _ => exact Nat.succ_pos _
            walk_at "go"
            rename_i r4 H4 hr4 hrow4 k4
            obtain ⟨n, hn, en⟩ := idx_n hr4
            walk_at "go"
            exact hZ _ _ ⟨.name n, hms n hn, rfl, ⟨_, rfl, by assumption⟩, by walk_at "hp", by walk_at "kp"⟩
          · walk_at "go"
            exact hZ _ _ ⟨.num 1, by show 1 < 1000; decide, rfl, ⟨_, rfl, by assumption⟩, by walk_at "hp", by walk_at "kp"⟩
      · walk_at "go"
        refine ite2 (fun cc => ?_) (fun cc => ?_)
        · walk_at "go"
          rename_i r6 H6 h6 hrow6 k6 r7 H7 h7 hrow7 k7 _ _ _ _ _ _ _ _ _ _ _ _ _ _ _
          exact k (.fn nm (.fn r6 (.num r7))) _ _ ⟨hnm', by omega, by show r7 < 1000; omega⟩ (Nat.le_of_ble_eq_true rfl) ⟨_, _, rfl, by assumption, ⟨_, _, rfl, by walk_at "hp", ⟨_, rfl, by walk_at "hp"⟩⟩⟩ (by walk_at "hp") (by walk_at "kp")
        · exact hZ _ rfl
    · walk_at "go"
      refine ite2 (fun cc => ?_) (fun cc => ?_)
      · walk_at "go"
        rename_i r2 H6 h6 hrow6 k6
        obtain rfl | rfl : r2 = 0 ∨ r2 = 1 := by omega
        · walk_at "go"
          rename_i r7 H7 h7 hrow7 k7 _ _ _ _ _
          exact k (.num r7) _ _ (by show r7 < 1000; omega) (Nat.le_of_ble_eq_true rfl) ⟨_, rfl, by assumption⟩ (by walk_at "hp") (by walk_at "kp")
        · walk_at "go"
          rename_i r7 H7 h7 hrow7 k7 _ _ _ _ _
          exact k (.num r7) _ _ (by show r7 < 1000; omega) (Nat.le_of_ble_eq_true rfl) ⟨_, rfl, by assumption⟩ (by walk_at "hp") (by walk_at "kp")
      · exact hZ _ rfl
  walk_at "go"
  refine ite2 (fun cc => ?_) (fun cc => ?_)
  · have hpos : 0 < ks.length := by
      cases ks with
      | nil => cases cc
      | cons _ _ => exact Nat.succ_pos _
    walk_at "go"
    refine ite2 (fun c2 => ?_) (fun c2 => ?_)
    · walk_at "go"
      rename_i r4 H4 hr4 hrow4 k4
      obtain ⟨n, hn, en⟩ := idx_n hr4
      walk_at "go"
      exact k (.name n) _ _ (hks n hn) (Nat.zero_le _) ⟨_, rfl, by assumption⟩ (by walk_at "hp") (by walk_at "kp")
    · exact hZ _ ⟨by walk_at "kp", by walk_at "hp", by walk_at "hp"⟩
  · exact hZ _ ⟨by walk_at "kp", by walk_at "hp", by walk_at "hp"⟩
end
end EW

end
section
open PySem L2 EW
local macro_rules | `(tactic| walk_at "ne") => `(tactic| first
  | assumption
  | exact Ne.symm (by assumption)
  | ((with_reducible refine' EW.RowAt.newne ?n ?h); (case n => assumption); (case h => walk_at "hp"))
  | ((with_reducible refine' Ne.symm (EW.RowAt.newne ?n ?h)); (case n => assumption); (case h => walk_at "hp"))
  | ((with_reducible refine' EW.BoxAt.newne ?n ?h); (case n => assumption); (case h => walk_at "hp"))
  | ((with_reducible refine' Ne.symm (EW.BoxAt.newne ?n ?h)); (case n => assumption); (case h => walk_at "hp")))
local macro_rules | `(tactic| walk_at "ns") => `(tactic| first
  | assumption
  | exact EW.RowAt.ne (by assumption)
  | ((with_reducible refine' EW.RowAt.notin ?n ?h); (case n => assumption); (case h => walk_at "hp")))
local macro_rules | `(tactic| walk_at "ni") => `(tactic| first
  | with_reducible exact EW.ne_mem0
  | with_reducible exact EW.dis0
  | ((with_reducible refine' EW.ne_mem1 ?h); (case h => walk_at "ne"))
  | ((with_reducible refine' EW.ne_mem2 ?h ?g); (case h => walk_at "ne"); (case g => walk_at "ne"))
  | ((with_reducible refine' EW.dis1 ?h); (case h => walk_at "ns"))
  | ((with_reducible refine' EW.dis2 ?h ?g); (case h => walk_at "ns"); (case g => walk_at "ns")))
local macro_rules | `(tactic| walk_at "hp") => `(tactic| first
  | assumption
  | ((with_reducible refine' EW.RE.mono (EW.Kp.tup ?k) ?h); (case k => assumption); (case h => walk_at "hp"))
  | ((with_reducible refine' EW.Kp.tup ?k _ _ ?h); (case k => assumption); (case h => walk_at "hp"))
  | ((with_reducible refine' EW.kp_tup ?k ?h); (case k => assumption); (case h => walk_at "hp"))
  | ((with_reducible refine' EW.Kp.keep ?k _ _ ?h ?n); (case k => assumption); (case h => walk_at "hp"); (case n => walk_at "ni"))
  | ((with_reducible refine' EW.Kp.seqL ?k ?h ?n); (case k => assumption); (case h => walk_at "hp"); (case n => walk_at "ni"))
  | ((with_reducible refine' EW.RowAt.keep ?k ?h ?n1 ?n2); (case k => assumption); (case h => walk_at "hp"); (case n1 => walk_at "ni"); (case n2 => walk_at "ni"))
  | ((with_reducible refine' EW.ScAt.keep ?k ?h ?n); (case k => assumption); (case h => walk_at "hp"); (case n => walk_at "ni"))
  | ((with_reducible refine' EW.BoxAt.keep ?k ?h ?n); (case k => assumption); (case h => walk_at "hp"); (case n => walk_at "ni"))
  | ((with_reducible refine' L2.SqL.of ?h); (case h => walk_at "hp"))
  | ((with_reducible refine' L2.SqT.of ?h); (case h => walk_at "hp")))
local macro_rules | `(tactic| walk_at "sb") => `(tactic| first
  | exact EW.sub0
  | exact EW.sub_refl
  | exact EW.sub_l
  | exact EW.sub_r)
local macro_rules | `(tactic| walk_at "kp") => `(tactic| first
  | exact EW.Kp.refl
  | assumption
  | ((with_reducible refine' EW.Kp.trans ?h (EW.Kp.mono ?k ?s)); (case k => assumption); (case s => walk_at "sb"); (case h => walk_at "kp")))
local macro_rules | `(tactic| walk_at "st") => `(tactic| first
  | with_reducible refine rd_seq ?_
  | with_reducible refine rd_next ?_
  | with_reducible refine rd_asg ?_
  | with_reducible refine rd_name ?_
  | with_reducible refine rd_ret ?_
  | with_reducible refine rd_drop ?_
  | ((with_reducible refine' rd_var ?e ?_); (case e => first | with_reducible assumption | exact rfl | assumption))
  | with_reducible refine rd_c ?_
  | with_reducible refine rd_op ?_
  | with_reducible refine rd_I0 ?_
  | with_reducible refine rd_test ?_
  | with_reducible refine rd_tB ?_
  | with_reducible refine rd_not ?_
  | with_reducible refine rd_and ?_
  | with_reducible refine rd_or ?_
  | with_reducible refine rd_ifE ?_
  | with_reducible refine rd_notV ?_
  | with_reducible refine rd_andV ?_
  | with_reducible refine rd_orV ?_
  | with_reducible refine rd_cons ?_
  | with_reducible refine EW.rd_par ?_
  | with_reducible refine EW.rd_par2 ?_
  | with_reducible refine EW.rd_parT ?_
  | with_reducible refine EW.rd_par3 ?_
  | with_reducible refine rd_nil ?_
  | with_reducible refine rd_cb ?_
  | with_reducible refine rd_call ?_
  | with_reducible refine rd_meth ?_
  | with_reducible refine rd_sub ?_
  | with_reducible refine rd_fl ?_
  | with_reducible refine rd_tup ?_
  | with_reducible refine rd_lst ?_
  | with_reducible refine rd_sl ?_
  | with_reducible refine rd_part ?_
  | with_reducible refine rd_partI ?_
  | with_reducible refine rd_nopart ?_
  | with_reducible refine rd_yes ?_
  | with_reducible refine rd_dnewK ?_
  | with_reducible refine rd_dnewT ?_
  | ((with_reducible refine' rd_isT ?h ?_); (case h => walk_at "hp"))
  | with_reducible refine rd_isI ?_
  | with_reducible refine rd_isII ?_
  | with_reducible refine rd_isIB ?_
  | ((with_reducible refine' rd_sum ?h ?_); (case h => walk_at "hp"))
  | ((with_reducible refine' rd_tail ?h ?_); (case h => walk_at "hp"))
  | ((with_reducible refine rd_newO ?_); intro _ _ _ _ _)
  | ((with_reducible refine' rd_lenS ?l ?_); (case l => exact rfl))
  | ((with_reducible refine' rd_ixS ?l ?e ?_); (case l => exact rfl); (case e => first | assumption | with_reducible exact EW.at_head | exact rfl))
  | with_reducible refine EW.ite_dT (by decide +kernel) ?_
  | with_reducible refine EW.ite_dF (by decide +kernel) ?_
  | with_reducible refine EW.ite_nT (by decide +kernel) ?_
  | with_reducible refine EW.ite_nF (by decide +kernel) ?_
  | with_reducible refine EW.iteNF ?_
  | with_reducible refine EW.iteNT ?_
  | with_reducible refine EW.iteEC ?_
  | with_reducible refine EW.iteEN ?_
  | with_reducible refine EW.iteNC ?_
  | with_reducible refine EW.iteNN ?_
  | with_reducible refine EW.rd_kget (by assumption) ?_
  | with_reducible refine EW.rd_kgx (by assumption) _ ?_
  | with_reducible refine EW.rd_ixD (by assumption) _ ?_
  | with_reducible refine EW.rd_chain ?_
  | with_reducible refine L2.iteT ?_
  | with_reducible refine L2.iteF ?_
  | with_reducible refine rd_bm ?_
  | with_reducible refine rd_bm0 ?_
  | with_reducible refine rd_sfld ?_
  | with_reducible refine rd_make ?_
  | ((with_reducible refine' rd_bmL ?s ?_); (case s => walk_at "hp"))
  | ((with_reducible refine' rd_bm0L ?s ?_); (case s => walk_at "hp"))
  | ((with_reducible refine' rd_mex ?s ?l ?_); (case s => walk_at "hp"); (case l => assumption))
  | with_reducible refine rd_lc ?_
  | with_reducible refine rd_for ?_
  | with_reducible refine rd_il ?_
  | with_reducible refine rd_it ?_
  | with_reducible refine rd_ir ?_
  | with_reducible refine rd_dput ?_
  | with_reducible refine rd_dget ?_
  | ((with_reducible refine' rd_ilx ?s ?_); (case s => walk_at "hp"))
  | ((with_reducible refine' rd_itx ?s ?_); (case s => walk_at "hp"))
  | ((with_reducible refine' rd_getK ?s ?e ?_); (case s => walk_at "hp"); (case e => assumption))
  | ((with_reducible refine rd_newT rfl ?_); intro _ _ _ _ _)
  | ((with_reducible refine rd_newL rfl ?_); intro _ _ _ _ _)
  | ((with_reducible refine' rd_taken ?a ?b ?c ?_); (case a => walk_at "hp"); (case b => first | omega | decide); (case c => first | omega | decide); intro _ _ _ _ _)
  | ((with_reducible refine' rd_neE ?a ?b ?_); (case a => walk_at "hp"); (case b => walk_at "hp"))
  | ((with_reducible refine' rd_eqE ?a ?b ?_); (case a => walk_at "hp"); (case b => walk_at "hp"))
  | with_reducible refine rd_eq rfl ?_
  | with_reducible refine rd_ne rfl ?_
  | with_reducible refine rd_bl ?_
  | ((with_reducible refine rd_I ?c ?_); (case c => first | assumption | omega | decide | (exact Or.inl ⟨by omega, by omega⟩) | (exact ⟨by omega, by omega⟩) | (exact ⟨by decide, by decide, by decide⟩)))
  | refine Or.inl ⟨_, rfl, ?_⟩
  | refine Or.inr ⟨_, rfl, ?_⟩
  | ((with_reducible refine' rd_lenL ?s ?_); (case s => walk_at "hp"))
  | ((with_reducible refine' rd_lenT ?s ?_); (case s => walk_at "hp"))
  | ((with_reducible refine' rd_ixL ?s ?e ?_); (case s => walk_at "hp"); (case e => first | assumption | with_reducible exact EW.at_head | exact rfl))
  | ((with_reducible refine' rd_ixT ?s ?e ?_); (case s => walk_at "hp"); (case e => first | assumption | with_reducible exact EW.at_head | exact rfl))
  | ((with_reducible refine' rd_flx ?s ?c ?n ?l ?_); (case s => walk_at "hp"); (case c => assumption); (case n => assumption); (case l => assumption)))
local macro_rules | `(tactic| walk_at "go") => `(tactic| repeat (walk_at "st"))
local macro_rules | `(tactic| walk_at "gi") => `(tactic| repeat (first | with_reducible refine rd_if ?_ | walk_at "st"))
namespace EW
open PySem L2
/-- an expression of the names B, of at most deep within one another (two at least); n calls of its own are left -/
def spE (K : PySem.W.Frag) (n : Nat) : Sp := fun vs H Q _ => ∃ (row c box : Addr) (S : List Addr) (want deep : Int) (B : List Nat), vs = [.ref row, .ref c, .int want, .int deep, .ref box] ∧ RowAt K H row S ∧ ScAt H c B ∧ BoxAt H box ∧
  c ≠ row ∧ c ≠ box ∧ box ≠ row ∧ box ∉ S ∧ 0 ≤ want ∧ 1 ≤ deep ∧ deep ≤ n ∧
  ∀ (e : E) (v : V) H', e.Wf B → (e.depth : Int) ≤ max 2 deep → RE H' e v → RowAt K H' row S → BoxAt H' box → Kp [row, box] H H' → Q v H'
theorem rd_e {K : PySem.W.Frag} {n : Nat} {H : Hp} {row c box : Addr} {S : List Addr} {want deep : Int} {B : List Nat} {Q : VK} {EE : XK} (h1 : RowAt K H row S) (h2 : ScAt H c B) (h3 : BoxAt H box) (n1 : c ≠ row) (n2 : c ≠ box) (n3 : box ≠ row) (n4 : box ∉ S)
    (h4 : 0 ≤ want) (h5 : 1 ≤ deep) (h6 : deep ≤ n) (k : ∀ (e : E) (v : V) H', e.Wf B → (e.depth : Int) ≤ max 2 deep → RE H' e v → RowAt K H' row S → BoxAt H' box → Kp [row, box] H H' → Q v H') :
    spE K n ([.ref row, .ref c, .int want, .int deep, .ref box] ++ []) H Q EE := ⟨row, c, box, S, want, deep, B, rfl, h1, h2, h3, n1, n2, n3, n4, h4, h5, h6, k⟩
theorem rd_leaf {K : PySem.W.Frag} {H : Hp} {row c : Addr} {S : List Addr} {want : Int} {B : List Nat} {Q : VK} {EE : XK} (h1 : RowAt K H row S) (h2 : ScAt H c B) (n1 : c ≠ row)
    (k : ∀ (e : E) (v : V) H', e.Wf B → e.depth ≤ 2 → RE H' e v → RowAt K H' row S → Kp [row] H H' → Q v H') :
    spLeaf K ([.ref row, .ref c, .int want] ++ []) H Q EE := ⟨row, c, S, want, B, rfl, h1, h2, n1, k⟩
theorem idx6 {r : Nat} (h : (r : Int) < 6) : ∃ z : Int, atI [V.int 0, V.int 1, V.int 1, V.int 2, V.int 3, V.int 0] (r : Int) = some (.int z) ∧ 0 ≤ z := by
  obtain rfl | rfl | rfl | rfl | rfl | rfl : r = 0 ∨ r = 1 ∨ r = 2 ∨ r = 3 ∨ r = 4 ∨ r = 5 := by omega
  all_goals exact ⟨_, rfl, by decide⟩
theorem idx2 {r : Nat} {x y : Int} (h : (r : Int) < 2) (hx : 0 ≤ x) (hy : 0 ≤ y) : ∃ z : Int, atI [V.int x, V.int y] (r : Int) = some (.int z) ∧ 0 ≤ z := by
  obtain rfl | rfl : r = 0 ∨ r = 1 := by omega
  · exact ⟨_, rfl, hx⟩
  · exact ⟨_, rfl, hy⟩
theorem idx2I {r : Int} {x y : Int} (h0 : 0 ≤ r) (h : r < 2) (hx : 0 ≤ x) (hy : 0 ≤ y) : ∃ z : Int, atI [V.int x, V.int y] r = some (.int z) ∧ 0 ≤ z := by
  obtain rfl | rfl : r = 0 ∨ r = 1 := by omega
  · exact ⟨_, rfl, hx⟩
  · exact ⟨_, rfl, hy⟩
theorem b01 {b : Bool} : (0 : Int) ≤ if b = true then 1 else 0 := by cases b <;> decide
section
variable {P : Program} {w : World} {K : PySem.W.Frag} {mg : Str → Option Value} {base : Heap}
abbrev psE : List Str := ["_law_row", "_law_scope", "_law_want", "_law_deep", "_law_box"]
theorem ok__law_e_step {f : Addr} {fd : FuncData} (A : At K mg "_law_e" s__law_e psE f fd) (T : TxtB mg) {n : Nat}
    (c__law_taken : Has P w K mg base "_law_taken" ["_law_row", "_law_many"] 1 (spTaken K))
    (c__law_bound : Has P w K mg base "_law_bound" ["_law_scope", "_law_name", "_law_sort"] 1 spBound) (c__law_leaf : Has P w K mg base "_law_leaf" ["_law_row", "_law_scope", "_law_want"] 2 (spLeaf K))
    (c__law_e : Has P w K mg base "_law_e" psE (2 + n) (spE K n)) : Has P w K mg base "_law_e" psE (2 + n + 1) (spE K (n + 1)) := by
  obtain ⟨f__law_taken, fd__law_taken, G__law_taken, m__law_taken, k__law_taken, b__law_taken⟩ := c__law_taken
  obtain ⟨f__law_bound, fd__law_bound, G__law_bound, m__law_bound, k__law_bound, b__law_bound⟩ := c__law_bound
  obtain ⟨f__law_leaf, fd__law_leaf, G__law_leaf, m__law_leaf, k__law_leaf, b__law_leaf⟩ := c__law_leaf
  obtain ⟨f__law_e, fd__law_e, G__law_e, m__law_e, k__law_e, b__law_e⟩ := c__law_e
  refine ⟨f, fd, A.F.ok sc__law_e (fun vs H Q EE h => ?_) (fun cdv A outer s H vs Q EE hr h => ?_), A.m, A.F.kp, A.b⟩
  · obtain ⟨_, _, _, _, _, _, _, rfl, _⟩ := h
    rfl
  obtain ⟨row, c, box, S, want, deep, B, rfl, hrow, hc, ⟨z, hbox⟩, hcr, hcb, hbr, hba, hw0, hd1, hdn, k⟩ := h
  refine ⟨_, (pss_cons (ps_asg (pe_op op_sub (pe_ix (w_ixL (K := K) rfl) (pv 4) pe_int (fun _ _ => rfl)) pe_int) (pg_sub (pv 4) pe_int set_list))
      (pss_cons (ps_set (i := 5) sc__law_e.nd rfl (Or.inl rfl) (pe_call G__law_taken (hr.mono (by first | decide | omega)) (by rfl) m__law_taken k__law_taken b__law_taken .nil pass0 (pa_cons (pv 0) (pa_cons pe_int pa_nil))))
      (pss_cons (ps_if (PW.pt (pw_or (pt_cmpR op_lt (pv 3) pe_int (nomark _)) (pw_or (pt_cmpR op_lt (pe_ix (w_ixL (K := K) rfl) (pv 4) pe_int (fun _ _ => rfl)) pe_int (nomark _)) (pw_or1 (pt_cmpR op_eq (pv 5) pe_int (nomark _))))))
        (pss_one (ps_ret (pe_call G__law_leaf (hr.mono (by first | decide | omega)) (by rfl) m__law_leaf k__law_leaf b__law_leaf .nil pass0 (pa_cons (pv 0) (pa_cons (pv 1) (pa_cons (pv 2) pa_nil))))))
        pss_nil)
      (pss_cons (ps_if (pt_cmpR op_lt (pv 5) pe_int (nomark _))
        (pss_cons (ps_set (i := 6) sc__law_e.nd rfl (Or.inl rfl) (pe_ix (w_ixL (K := K) rfl) (pe_lst (pa_cons pe_int (pa_cons pe_int (pa_cons pe_int (pa_cons pe_int (pa_cons pe_int (pa_cons pe_int pa_nil))))))) (pe_call G__law_taken (hr.mono (by first | decide | omega)) (by rfl) m__law_taken k__law_taken b__law_taken .nil pass0 (pa_cons (pv 0) (pa_cons pe_int pa_nil))) (fun _ _ => rfl)))
        (pss_cons (ps_set (i := 7) sc__law_e.nd rfl (Or.inl rfl) (pe_call G__law_taken (hr.mono (by first | decide | omega)) (by rfl) m__law_taken k__law_taken b__law_taken .nil pass0 (pa_cons (pv 0) (pa_cons pe_int pa_nil))))
        (pss_cons (ps_set (i := 8) sc__law_e.nd rfl (Or.inl rfl) (pe_call G__law_e (hr.mono (by first | decide | omega)) (by rfl) m__law_e k__law_e b__law_e .nil pass0 (pa_cons (pv 0) (pa_cons (pv 1) (pa_cons (pv 6) (pa_cons (pe_op op_sub (pv 3) pe_int) (pa_cons (pv 4) pa_nil)))))))
        (pss_one (ps_ret (pe_tup (pa_cons pe_str (pa_cons (pv 7) (pa_cons (pv 8) (pa_cons (pe_call G__law_e (hr.mono (by first | decide | omega)) (by rfl) m__law_e k__law_e b__law_e .nil pass0 (pa_cons (pv 0) (pa_cons (pe_call G__law_bound (hr.mono (by first | decide | omega)) (by rfl) m__law_bound k__law_bound b__law_bound .nil pass0 (pa_cons (pv 1) (pa_cons (pv 7) (pa_cons (pv 6) pa_nil)))) (pa_cons (pv 2) (pa_cons (pe_op op_sub (pv 3) pe_int) (pa_cons (pv 4) pa_nil)))))) pa_nil))))))))))
        pss_nil)
      (pss_cons (ps_if (pt_cmpR op_eq (pv 5) pe_int (nomark _))
        (pss_cons (ps_set (i := 8) sc__law_e.nd rfl (Or.inl rfl) (pe_call G__law_e (hr.mono (by first | decide | omega)) (by rfl) m__law_e k__law_e b__law_e .nil pass0 (pa_cons (pv 0) (pa_cons (pv 1) (pa_cons pe_int (pa_cons (pe_op op_sub (pv 3) pe_int) (pa_cons (pv 4) pa_nil)))))))
        (pss_one (ps_ret (pe_tup (pa_cons pe_str (pa_cons (pv 8) (pa_cons (pe_call G__law_e (hr.mono (by first | decide | omega)) (by rfl) m__law_e k__law_e b__law_e .nil pass0 (pa_cons (pv 0) (pa_cons (pv 1) (pa_cons (pv 2) (pa_cons (pe_op op_sub (pv 3) pe_int) (pa_cons (pv 4) pa_nil)))))) (pa_cons (pe_call G__law_e (hr.mono (by first | decide | omega)) (by rfl) m__law_e k__law_e b__law_e .nil pass0 (pa_cons (pv 0) (pa_cons (pv 1) (pa_cons (pv 2) (pa_cons (pe_op op_sub (pv 3) pe_int) (pa_cons (pv 4) pa_nil)))))) pa_nil))))))))
        pss_nil)
      (pss_cons (ps_if (PW.pt (pw_and (pt_cmpR op_gt (pv 2) pe_int (nomark _)) (pw_and1 (pt_cmpR op_lt (pv 5) pe_int (nomark _)))))
        (pss_cons (ps_set (i := 7) sc__law_e.nd rfl (Or.inl rfl) (pe_call G__law_taken (hr.mono (by first | decide | omega)) (by rfl) m__law_taken k__law_taken b__law_taken .nil pass0 (pa_cons (pv 0) (pa_cons pe_int pa_nil))))
        (pss_one (ps_ret (pe_tup (pa_cons pe_str (pa_cons (pv 7) (pa_cons (pe_call G__law_e (hr.mono (by first | decide | omega)) (by rfl) m__law_e k__law_e b__law_e .nil pass0 (pa_cons (pv 0) (pa_cons (pe_call G__law_bound (hr.mono (by first | decide | omega)) (by rfl) m__law_bound k__law_bound b__law_bound .nil pass0 (pa_cons (pv 1) (pa_cons (pv 7) (pa_cons (pe_callTy call_int1 (by rfl) T.z_int (by decide +kernel) (pa_cons (pe_cmpR op_eq (pv 2) pe_int (nomark _)) pa_nil)) pa_nil)))) (pa_cons (pe_callTy call_int1 (by rfl) T.z_int (by decide +kernel) (pa_cons (pe_cmpR op_eq (pv 2) pe_int (nomark _)) pa_nil)) (pa_cons (pe_op op_sub (pv 3) pe_int) (pa_cons (pv 4) pa_nil)))))) pa_nil)))))))
        pss_nil)
      (pss_cons (ps_if (PW.pt (pw_and (pt_cmpR op_eq (pv 2) pe_int (nomark _)) (pw_and1 (pt_cmpR op_eq (pv 5) pe_int (nomark _)))))
        (pss_one (ps_ret (pe_tup (pa_cons pe_str (pa_cons (pe_call G__law_e (hr.mono (by first | decide | omega)) (by rfl) m__law_e k__law_e b__law_e .nil pass0 (pa_cons (pv 0) (pa_cons (pv 1) (pa_cons pe_int (pa_cons (pe_op op_sub (pv 3) pe_int) (pa_cons (pv 4) pa_nil)))))) (pa_cons (pe_call G__law_e (hr.mono (by first | decide | omega)) (by rfl) m__law_e k__law_e b__law_e .nil pass0 (pa_cons (pv 0) (pa_cons (pv 1) (pa_cons pe_int (pa_cons (pe_op op_sub (pv 3) pe_int) (pa_cons (pv 4) pa_nil)))))) pa_nil))))))
        pss_nil)
      (pss_cons (ps_if (pt_cmpR op_lt (pv 2) pe_int (nomark _))
        (pss_cons (ps_set (i := 6) sc__law_e.nd rfl (Or.inl rfl) (pe_ix (w_ixL (K := K) rfl) (pe_lst (pa_cons (pe_ix (w_ixL (K := K) rfl) (pe_lst (pa_cons pe_int (pa_cons pe_int pa_nil))) (pe_call G__law_taken (hr.mono (by first | decide | omega)) (by rfl) m__law_taken k__law_taken b__law_taken .nil pass0 (pa_cons (pv 0) (pa_cons pe_int pa_nil))) (fun _ _ => rfl)) (pa_cons pe_int pa_nil))) (pv 2) (fun _ _ => rfl)))
        (pss_cons (ps_set (i := 8) sc__law_e.nd rfl (Or.inl rfl) (pe_call G__law_e (hr.mono (by first | decide | omega)) (by rfl) m__law_e k__law_e b__law_e .nil pass0 (pa_cons (pv 0) (pa_cons (pv 1) (pa_cons (pv 6) (pa_cons (pe_op op_sub (pv 3) pe_int) (pa_cons (pv 4) pa_nil)))))))
        (pss_one (ps_ret (pe_tup (pa_cons pe_str (pa_cons (pv 8) (pa_cons (pe_call G__law_e (hr.mono (by first | decide | omega)) (by rfl) m__law_e k__law_e b__law_e .nil pass0 (pa_cons (pv 0) (pa_cons (pv 1) (pa_cons (pe_callTy call_int1 (by rfl) T.z_int (by decide +kernel) (pa_cons (pe_cmpR op_eq (pv 6) pe_int (nomark _)) pa_nil)) (pa_cons (pe_op op_sub (pv 3) pe_int) (pa_cons (pv 4) pa_nil)))))) pa_nil))))))))
        pss_nil)
      (pss_one (ps_ret (pe_call G__law_leaf (hr.mono (by first | decide | omega)) (by rfl) m__law_leaf k__law_leaf b__law_leaf .nil pass0 (pa_cons (pv 0) (pa_cons (pv 1) (pa_cons (pv 2) pa_nil)))))))))))))), ?_⟩
  refine at_st (σ' := [some (.ref row), some (.ref c), some (.int want), some (.int deep), some (.ref box), none, none, none, none]) rfl ?_
  walk_at "go"
  refine rd_setL hbox rfl fun H1 k1 h1 => ?_
  have hbox1 : BoxAt H1 box := ⟨_, h1⟩
  have hrow1 : RowAt K H1 row S := by walk_at "hp"
  walk_at "go"
  rename_i way H2 hway hrow2 k2
  have hc2 : ScAt H2 c B := by walk_at "hp"
  refine rd_ifJ (fun H' => H2 = H' ∧ 3 ≤ deep) ?_ fun Z hZ => ?_
  · rintro _ ⟨rfl, h3⟩
    walk_at "st"
    walk_at "st"
    refine rd_if ?_
    walk_at "go"
    have hbox2 : BoxAt H2 box := by walk_at "hp"
    refine ite2 (fun c1 => ?_) (fun c1 => ?_)
    · -- a let
      walk_at "go"
      rename_i r3 H3 h3' hrow3 k3
      obtain ⟨so, eso, hso⟩ := idx6 h3'
      walk_at "go"
      rename_i nm H4 hnm hrow4 k4
      refine rd_e (B := B) (by walk_at "hp") (by walk_at "hp") (by walk_at "hp") hcr hcb hbr hba hso (by omega) (by omega) fun e1 v1 H5 w1 d1 r1 hrow5 hbox5 k5 => ?_
      walk_at "go"
      refine rd_bound (B := B) (by walk_at "hp") (by omega) fun p6 H6 hp6 k6 hc6 => ?_
      walk_at "go"
      refine rd_e (by walk_at "hp") hc6 (by walk_at "hp") (by walk_at "ne") (by walk_at "ne") hbr hba hw0 (by omega) (by omega) fun e2 v2 H7 w2 d2 r2 hrow7 hbox7 k7 => ?_
      walk_at "go"
      exact k (.lt nm e1 e2) _ _ ⟨by omega, w1, w2⟩ (by show ((1 + max e1.depth e2.depth : Nat) : Int) ≤ _; omega) ⟨_, _, _, rfl, by assumption, by walk_at "hp", by walk_at "hp"⟩ (by walk_at "hp") (by walk_at "hp") (by walk_at "kp")
    · walk_at "st"
      walk_at "st"
      refine rd_if ?_
      walk_at "go"
      refine ite2 (fun c2 => ?_) (fun c2 => ?_)
      · -- an if
        walk_at "go"
        refine rd_e (B := B) (by walk_at "hp") (by walk_at "hp") (by walk_at "hp") hcr hcb hbr hba (by omega) (by omega) (by omega) fun e1 v1 H5 w1 d1 r1 hrow5 hbox5 k5 => ?_
        walk_at "go"
        refine rd_e (B := B) (by walk_at "hp") (by walk_at "hp") (by walk_at "hp") hcr hcb hbr hba hw0 (by omega) (by omega) fun e2 v2 H6 w2 d2 r2 hrow6 hbox6 k6 => ?_
        walk_at "go"
        refine rd_e (B := B) (by walk_at "hp") (by walk_at "hp") (by walk_at "hp") hcr hcb hbr hba hw0 (by omega) (by omega) fun e3 v3 H7 w3 d3 r3 hrow7 hbox7 k7 => ?_
        walk_at "go"
        exact k (.ite e1 e2 e3) _ _ ⟨w1, w2, w3⟩ (by show ((1 + max e1.depth (max e2.depth e3.depth) : Nat) : Int) ≤ _; omega) ⟨_, _, _, _, rfl, by assumption, by walk_at "hp", by walk_at "hp", by walk_at "hp"⟩ (by walk_at "hp") (by walk_at "hp") (by walk_at "kp")
      · walk_at "st"
        walk_at "st"
        refine rd_ifJ (fun H' => H2 = H') ?_ fun Z hZ => ?_
        · rintro _ rfl
          walk_at "st"
          walk_at "st"
          refine rd_ifJ (fun H' => H2 = H') ?_ fun Z hZ => ?_
          · rintro _ rfl
            walk_at "st"
            walk_at "st"
            refine rd_if ?_
            walk_at "go"
            refine ite2 (fun c5 => ?_) (fun c5 => ?_)
            · -- a call
              have c5' := of_decide_eq_true c5
              walk_at "go"
              rename_i r3 H3 h3' hrow3 k3
              obtain ⟨s1, es1, hs1⟩ := idx2 (x := 1) (y := 3) h3' (by decide) (by decide)
              walk_at "go"
              obtain ⟨s2, es2, hs2⟩ := idx2I (x := s1) (y := 2) hw0 c5' hs1 (by decide)
              walk_at "go"
              refine rd_e (B := B) (by walk_at "hp") (by walk_at "hp") (by walk_at "hp") hcr hcb hbr hba hs2 (by omega) (by omega) fun e1 v1 H5 w1 d1 r1 hrow5 hbox5 k5 => ?_
              walk_at "go"
              refine rd_e (B := B) (by walk_at "hp") (by walk_at "hp") (by walk_at "hp") hcr hcb hbr hba b01 (by omega) (by omega) fun e2 v2 H6 w2 d2 r2 hrow6 hbox6 k6 => ?_
              walk_at "go"
              exact k (.call e1 e2) _ _ ⟨w1, w2⟩ (by show ((1 + max e1.depth e2.depth : Nat) : Int) ≤ _; omega) ⟨_, _, _, rfl, by assumption, by walk_at "hp", by walk_at "hp"⟩ (by walk_at "hp") (by walk_at "hp") (by walk_at "kp")
            · walk_at "go"
              refine rd_leaf (B := B) (by walk_at "hp") (by walk_at "hp") hcr fun e v H3 we de re hrow3 k3 => ?_
              exact k e v H3 we (by omega) re hrow3 (by walk_at "hp") (by walk_at "kp")
          · -- a plus
            walk_at "go"
            refine ite2 (fun c4 => ?_) (fun c4 => ?_)
            · walk_at "go"
              refine ite2 (fun c5 => ?_) (fun c5 => ?_)
              · walk_at "go"
                refine rd_e (B := B) (by walk_at "hp") (by walk_at "hp") (by walk_at "hp") hcr hcb hbr hba (by omega) (by omega) (by omega) fun e1 v1 H5 w1 d1 r1 hrow5 hbox5 k5 => ?_
                walk_at "go"
                refine rd_e (B := B) (by walk_at "hp") (by walk_at "hp") (by walk_at "hp") hcr hcb hbr hba (by omega) (by omega) (by omega) fun e2 v2 H6 w2 d2 r2 hrow6 hbox6 k6 => ?_
                walk_at "go"
                exact k (.plus e1 e2) _ _ ⟨w1, w2⟩ (by show ((1 + max e1.depth e2.depth : Nat) : Int) ≤ _; omega) ⟨_, _, _, rfl, by assumption, by walk_at "hp", by walk_at "hp"⟩ (by walk_at "hp") (by walk_at "hp") (by walk_at "kp")
              · exact hZ _ rfl
            · exact hZ _ rfl
        · -- a fun
          walk_at "go"
          refine ite2 (fun c4 => ?_) (fun c4 => ?_)
          · walk_at "go"
            refine ite2 (fun c5 => ?_) (fun c5 => ?_)
            · walk_at "go"
              rename_i nm H4 hnm hrow4 k4
              refine rd_bound (B := B) (by walk_at "hp") (by omega) fun p6 H6 hp6 k6 hc6 => ?_
              walk_at "go"
              refine rd_e (B := B ++ [nm]) (by walk_at "hp") hc6 (by walk_at "hp") (by walk_at "ne") (by walk_at "ne") hbr hba b01 (by omega) (by omega) fun e2 v2 H7 w2 d2 r2 hrow7 hbox7 k7 => ?_
              walk_at "go"
              exact k (.fn nm e2) _ _ ⟨by omega, w2⟩ (by show ((1 + e2.depth : Nat) : Int) ≤ _; omega) ⟨_, _, rfl, by assumption, by walk_at "hp"⟩ (by walk_at "hp") (by walk_at "hp") (by walk_at "kp")
            · exact hZ _ rfl
          · exact hZ _ rfl
  · have leaf : ∀ H', H2 = H' → spLeaf K ([.ref row, .ref c, .int want] ++ []) H' Q EE := by
      rintro _ rfl
      refine rd_leaf (B := B) hrow2 hc2 hcr fun e v H3 we de re hrow3 k3 => ?_
      exact k e v H3 we (by omega) re hrow3 (by walk_at "hp") (by walk_at "kp")
    walk_at "go"
    refine ite2 (fun c1 => ?_) (fun c1 => ?_)
    · walk_at "go"
      exact leaf _ rfl
    · have c1' : ¬ deep < 3 := fun q => c1 (decide_eq_true q)
      walk_at "go"
      refine ite2 (fun c2 => ?_) (fun c2 => ?_)
      · walk_at "go"
        exact leaf _ rfl
      · walk_at "go"
        refine ite2 (fun c3 => ?_) (fun c3 => ?_)
        · walk_at "go"
          exact leaf _ rfl
        · exact hZ _ ⟨rfl, by omega⟩
end
end EW

end
section
open PySem L2 EW
local macro_rules | `(tactic| walk_at "ne") => `(tactic| first
  | assumption
  | exact Ne.symm (by assumption)
  | ((with_reducible refine' EW.RowAt.newne ?n ?h); (case n => assumption); (case h => walk_at "hp"))
  | ((with_reducible refine' Ne.symm (EW.RowAt.newne ?n ?h)); (case n => assumption); (case h => walk_at "hp"))
  | ((with_reducible refine' EW.BoxAt.newne ?n ?h); (case n => assumption); (case h => walk_at "hp"))
  | ((with_reducible refine' Ne.symm (EW.BoxAt.newne ?n ?h)); (case n => assumption); (case h => walk_at "hp")))
local macro_rules | `(tactic| walk_at "ns") => `(tactic| first
  | assumption
  | exact EW.RowAt.ne (by assumption)
  | ((with_reducible refine' EW.RowAt.notin ?n ?h); (case n => assumption); (case h => walk_at "hp")))
local macro_rules | `(tactic| walk_at "ni") => `(tactic| first
  | with_reducible exact EW.ne_mem0
  | with_reducible exact EW.dis0
  | ((with_reducible refine' EW.ne_mem1 ?h); (case h => walk_at "ne"))
  | ((with_reducible refine' EW.ne_mem2 ?h ?g); (case h => walk_at "ne"); (case g => walk_at "ne"))
  | ((with_reducible refine' EW.dis1 ?h); (case h => walk_at "ns"))
  | ((with_reducible refine' EW.dis2 ?h ?g); (case h => walk_at "ns"); (case g => walk_at "ns")))
local macro_rules | `(tactic| walk_at "hp") => `(tactic| first
  | assumption
  | ((with_reducible refine' EW.RE.mono (EW.Kp.tup ?k) ?h); (case k => assumption); (case h => walk_at "hp"))
  | ((with_reducible refine' EW.Kp.tup ?k _ _ ?h); (case k => assumption); (case h => walk_at "hp"))
  | ((with_reducible refine' EW.kp_tup ?k ?h); (case k => assumption); (case h => walk_at "hp"))
  | ((with_reducible refine' EW.Kp.keep ?k _ _ ?h ?n); (case k => assumption); (case h => walk_at "hp"); (case n => walk_at "ni"))
  | ((with_reducible refine' EW.Kp.seqL ?k ?h ?n); (case k => assumption); (case h => walk_at "hp"); (case n => walk_at "ni"))
  | ((with_reducible refine' EW.RowAt.keep ?k ?h ?n1 ?n2); (case k => assumption); (case h => walk_at "hp"); (case n1 => walk_at "ni"); (case n2 => walk_at "ni"))
  | ((with_reducible refine' EW.ScAt.keep ?k ?h ?n); (case k => assumption); (case h => walk_at "hp"); (case n => walk_at "ni"))
  | ((with_reducible refine' EW.BoxAt.keep ?k ?h ?n); (case k => assumption); (case h => walk_at "hp"); (case n => walk_at "ni"))
  | ((with_reducible refine' L2.SqL.of ?h); (case h => walk_at "hp"))
  | ((with_reducible refine' L2.SqT.of ?h); (case h => walk_at "hp")))
local macro_rules | `(tactic| walk_at "sb") => `(tactic| first
  | exact EW.sub0
  | exact EW.sub_refl
  | exact EW.sub_l
  | exact EW.sub_r)
local macro_rules | `(tactic| walk_at "kp") => `(tactic| first
  | exact EW.Kp.refl
  | assumption
  | ((with_reducible refine' EW.Kp.trans ?h (EW.Kp.mono ?k ?s)); (case k => assumption); (case s => walk_at "sb"); (case h => walk_at "kp")))
local macro_rules | `(tactic| walk_at "st") => `(tactic| first
  | with_reducible refine rd_seq ?_
  | with_reducible refine rd_next ?_
  | with_reducible refine rd_asg ?_
  | with_reducible refine rd_name ?_
  | with_reducible refine rd_ret ?_
  | with_reducible refine rd_drop ?_
  | ((with_reducible refine' rd_var ?e ?_); (case e => first | with_reducible assumption | exact rfl | assumption))
  | with_reducible refine rd_c ?_
  | with_reducible refine rd_op ?_
  | with_reducible refine rd_I0 ?_
  | with_reducible refine rd_test ?_
  | with_reducible refine rd_tB ?_
  | with_reducible refine rd_not ?_
  | with_reducible refine rd_and ?_
  | with_reducible refine rd_or ?_
  | with_reducible refine rd_ifE ?_
  | with_reducible refine rd_notV ?_
  | with_reducible refine rd_andV ?_
  | with_reducible refine rd_orV ?_
  | with_reducible refine rd_cons ?_
  | with_reducible refine EW.rd_par ?_
  | with_reducible refine EW.rd_par2 ?_
  | with_reducible refine EW.rd_parT ?_
  | with_reducible refine EW.rd_par3 ?_
  | with_reducible refine rd_nil ?_
  | with_reducible refine rd_cb ?_
  | with_reducible refine rd_call ?_
  | with_reducible refine rd_meth ?_
  | with_reducible refine rd_sub ?_
  | with_reducible refine rd_fl ?_
  | with_reducible refine rd_tup ?_
  | with_reducible refine rd_lst ?_
  | with_reducible refine rd_sl ?_
  | with_reducible refine rd_part ?_
  | with_reducible refine rd_partI ?_
  | with_reducible refine rd_nopart ?_
  | with_reducible refine rd_yes ?_
  | with_reducible refine rd_dnewK ?_
  | with_reducible refine rd_dnewT ?_
  | ((with_reducible refine' rd_isT ?h ?_); (case h => walk_at "hp"))
  | with_reducible refine rd_isI ?_
  | with_reducible refine rd_isII ?_
  | with_reducible refine rd_isIB ?_
  | ((with_reducible refine' rd_sum ?h ?_); (case h => walk_at "hp"))
  | ((with_reducible refine' rd_tail ?h ?_); (case h => walk_at "hp"))
  | ((with_reducible refine rd_newO ?_); intro _ _ _ _ _)
  | ((with_reducible refine' rd_lenS ?l ?_); (case l => exact rfl))
  | ((with_reducible refine' rd_ixS ?l ?e ?_); (case l => exact rfl); (case e => first | assumption | with_reducible exact EW.at_head | exact rfl))
  | with_reducible refine EW.ite_dT (by decide +kernel) ?_
  | with_reducible refine EW.ite_dF (by decide +kernel) ?_
  | with_reducible refine EW.ite_nT (by decide +kernel) ?_
  | with_reducible refine EW.ite_nF (by decide +kernel) ?_
  | with_reducible refine EW.iteNF ?_
  | with_reducible refine EW.iteNT ?_
  | with_reducible refine EW.iteEC ?_
  | with_reducible refine EW.iteEN ?_
  | with_reducible refine EW.iteNC ?_
  | with_reducible refine EW.iteNN ?_
  | with_reducible refine EW.rd_kget (by assumption) ?_
  | with_reducible refine EW.rd_kgx (by assumption) _ ?_
  | with_reducible refine EW.rd_ixD (by assumption) _ ?_
  | with_reducible refine EW.rd_chain ?_
  | with_reducible refine L2.iteT ?_
  | with_reducible refine L2.iteF ?_
  | with_reducible refine rd_bm ?_
  | with_reducible refine rd_bm0 ?_
  | with_reducible refine rd_sfld ?_
  | with_reducible refine rd_make ?_
  | ((with_reducible refine' rd_bmL ?s ?_); (case s => walk_at "hp"))
  | ((with_reducible refine' rd_bm0L ?s ?_); (case s => walk_at "hp"))
  | ((with_reducible refine' rd_mex ?s ?l ?_); (case s => walk_at "hp"); (case l => assumption))
  | with_reducible refine rd_lc ?_
  | with_reducible refine rd_for ?_
  | with_reducible refine rd_il ?_
  | with_reducible refine rd_it ?_
  | with_reducible refine rd_ir ?_
  | with_reducible refine rd_dput ?_
  | with_reducible refine rd_dget ?_
  | ((with_reducible refine' rd_ilx ?s ?_); (case s => walk_at "hp"))
  | ((with_reducible refine' rd_itx ?s ?_); (case s => walk_at "hp"))
  | ((with_reducible refine' rd_getK ?s ?e ?_); (case s => walk_at "hp"); (case e => assumption))
  | ((with_reducible refine rd_newT rfl ?_); intro _ _ _ _ _)
  | ((with_reducible refine rd_newL rfl ?_); intro _ _ _ _ _)
  | ((with_reducible refine' rd_taken ?a ?b ?c ?_); (case a => walk_at "hp"); (case b => first | omega | decide); (case c => first | omega | decide); intro _ _ _ _ _)
  | ((with_reducible refine' rd_neE ?a ?b ?_); (case a => walk_at "hp"); (case b => walk_at "hp"))
  | ((with_reducible refine' rd_eqE ?a ?b ?_); (case a => walk_at "hp"); (case b => walk_at "hp"))
  | with_reducible refine rd_eq rfl ?_
  | with_reducible refine rd_ne rfl ?_
  | with_reducible refine rd_bl ?_
  | ((with_reducible refine rd_I ?c ?_); (case c => first | assumption | omega | decide | (exact Or.inl ⟨by omega, by omega⟩) | (exact ⟨by omega, by omega⟩) | (exact ⟨by decide, by decide, by decide⟩)))
  | refine Or.inl ⟨_, rfl, ?_⟩
  | refine Or.inr ⟨_, rfl, ?_⟩
  | ((with_reducible refine' rd_lenL ?s ?_); (case s => walk_at "hp"))
  | ((with_reducible refine' rd_lenT ?s ?_); (case s => walk_at "hp"))
  | ((with_reducible refine' rd_ixL ?s ?e ?_); (case s => walk_at "hp"); (case e => first | assumption | with_reducible exact EW.at_head | exact rfl))
  | ((with_reducible refine' rd_ixT ?s ?e ?_); (case s => walk_at "hp"); (case e => first | assumption | with_reducible exact EW.at_head | exact rfl))
  | ((with_reducible refine' rd_flx ?s ?c ?n ?l ?_); (case s => walk_at "hp"); (case c => assumption); (case n => assumption); (case l => assumption)))
local macro_rules | `(tactic| walk_at "go") => `(tactic| repeat (walk_at "st"))
local macro_rules | `(tactic| walk_at "gi") => `(tactic| repeat (first | with_reducible refine rd_if ?_ | walk_at "st"))
namespace EW
open PySem L2
/-- how many expressions; n calls of its own are left -/
def spSize (n : Nat) : Sp := fun vs H Q _ => ∃ (e : E) (v : V), vs = [v] ∧ RE H e v ∧ e.depth < n ∧ ∀ H', Kp [] H H' → Q (.int (e.size : Int)) H'
theorem rd_size {n : Nat} {H : Hp} {e : E} {v : V} {Q : VK} {EE : XK} (h : RE H e v) (hd : e.depth < n) (k : ∀ H', Kp [] H H' → Q (.int (e.size : Int)) H') : spSize n ([v] ++ []) H Q EE := ⟨e, v, rfl, h, hd, k⟩
def spFew (K : PySem.W.Frag) : Sp := fun vs H Q _ => ∃ (row : Addr) (S : List Addr) (want : Int), vs = [.ref row, .int want] ∧ RowAt K H row S ∧ 0 ≤ want ∧
  ∀ (e : E) (v : V) H', e.Wf [] → e.depth ≤ 4 → e.size < 25 → RE H' e v → RowAt K H' row S → Kp [row] H H' → Q v H'
def spAny (K : PySem.W.Frag) : Sp := fun vs H Q _ => ∃ (row : Addr) (S : List Addr), vs = [.ref row] ∧ RowAt K H row S ∧
  ∀ (e : E) (v : V) H', e.Wf [] → e.depth ≤ 5 → e.size ≤ 26 → RE H' e v → RowAt K H' row S → Kp [row] H H' → Q v H'
section
variable {P : Program} {w : World} {K : PySem.W.Frag} {mg : Str → Option Value} {base : Heap}
theorem none_left0 {f : Addr} {fd : FuncData} {ps : List Str} {k : Nat} {sp : Sp} (no : ∀ vs H Q E, ¬ sp vs H Q E) : FnOk P w K mg base CX0 k f fd ps sp :=
  ⟨fun vs H Q E h => absurd h (no vs H Q E), fun A outer s H args us vs Q E _ _ _ _ h => absurd h (no vs H Q E)⟩
theorem ok__law_e {f : Addr} {fd : FuncData} (A : At K mg "_law_e" s__law_e psE f fd) (T : TxtB mg)
    (c__law_taken : Has P w K mg base "_law_taken" ["_law_row", "_law_many"] 1 (spTaken K))
    (c__law_bound : Has P w K mg base "_law_bound" ["_law_scope", "_law_name", "_law_sort"] 1 spBound) (c__law_leaf : Has P w K mg base "_law_leaf" ["_law_row", "_law_scope", "_law_want"] 2 (spLeaf K)) :
    ∀ n, Has P w K mg base "_law_e" psE (2 + n) (spE K n)
  | 0 => ⟨f, fd, none_left0 fun vs H Q E ⟨_, _, _, _, _, _, _, _, _, _, _, _, _, _, _, _, h1, h2, _⟩ => by omega, A.m, A.F.kp, A.b⟩
  | n + 1 => ok__law_e_step A T c__law_taken c__law_bound c__law_leaf (ok__law_e A T c__law_taken c__law_bound c__law_leaf n)
theorem ok__law_size_step {f : Addr} {fd : FuncData} (A : At K mg "_law_size" s__law_size ["_law_e_here"] f fd) (T : TxtB mg) {n : Nat}
    (c__law_size : Has P w K mg base "_law_size" ["_law_e_here"] n (spSize n)) : Has P w K mg base "_law_size" ["_law_e_here"] (n + 1) (spSize (n + 1)) := by
  obtain ⟨f__law_size, fd__law_size, G__law_size, m__law_size, k__law_size, b__law_size⟩ := c__law_size
  refine ⟨f, fd, A.F.ok sc__law_size (fun vs H Q EE h => ?_) (fun cdv A outer s H vs Q EE hr h => ?_), A.m, A.F.kp, A.b⟩
  · obtain ⟨_, _, rfl, _⟩ := h
    rfl
  obtain ⟨e, v, rfl, hre, hd, k⟩ := h
  obtain ⟨p, zs, rfl, hp, hz, hk, hne, hl⟩ := hre.items
  refine ⟨_, (pss_one (ps_ret (pe_op op_add pe_int (pe_callB (w_sum (K := K) rfl rfl) (by rfl) T.z_sum (by decide +kernel) (pa_cons (pe_lc (own := [("_law_part", 1)]) (g := (gName 1)) (tt := _) rfl sc__law_size.nd (w_piT (K := K) rfl (pe_slice (w_slT (K := K) rfl) (pv 0) (po_some pe_int) po_none)) (blkOk_by (own := [("_law_part", 1)]) (N := N__law_size) (sc := defScope s__law_size) (by decide +kernel)) (fun _ _ _ _ _ => (pg_name (i := 1) sc__law_size.nd rfl (Or.inl rfl))) (fun _ _ _ _ _ => pts_one (pt_val (pe_callB (w_isi (K := K) rfl) (by rfl) T.z_isinstance (by decide +kernel) (pa_cons (pv 1) (pa_cons (pe_bltn (v := .ty "tuple") (by rfl) T.z_tuple (by decide +kernel) rfl) pa_nil))))) (fun _ _ _ _ _ => (pe_call G__law_size (hr.mono (by first | decide | omega)) (by rfl) m__law_size k__law_size b__law_size .nil pass0 (pa_cons (pv 1) pa_nil)))) pa_nil))))), ?_⟩
  refine at_st (σ' := [some (.ref p), none]) rfl ?_
  walk_at "go"
  rename_i p1 H1 n1 k1 h1
  intro D hD
  refine lc_kids (fun e => .int (e.size : Int)) hD h1 hl (fun z hzm H2 k2 Qy Qn qy qn => ?_) fun H2 k2 h2 => ?_
  · walk_at "go"
    refine ⟨rfl, ?_⟩
    rcases hz z hzm with ⟨ez, i, ei⟩ | ⟨c, ec, rc, hc⟩
    · rw [ei]
      walk_at "go"
      exact qn ez _ Kp.refl
    · have rc2 : RE H2 c z.1 := by walk_at "hp"
      obtain ⟨pc, zc, epc, hpc, _⟩ := rc2.items
      rw [epc] at rc2 ⊢
      walk_at "go"
      have := E.kids_depth hc
      exact rd_size rc2 (by omega) fun H3 k3 => qy c ec H3 k3
  · rw [hk] at h2
    have e2 : e.kids.map (fun e => V.int (e.size : Int)) = (e.kids.map fun e => (e.size : Int)).map V.int := by rw [List.map_map] <;> rfl
    rw [e2] at h2
    walk_at "go"
    have e3 : (1 : Int) + (e.kids.map fun e => (e.size : Int)).sum = (e.size : Int) := by
      rw [E.size_kids e]
      have : ∀ l : List E, (l.map fun e => (e.size : Int)).sum = ((l.map E.size).sum : Nat) := fun l => by
        induction l with
        | nil => rfl
        | cons x r ih => simp only [List.map_cons, List.sum_cons, ih]; omega
      rw [this]
      omega
    rw [e3]
    exact k _ (by walk_at "kp")
theorem ok__law_size {f : Addr} {fd : FuncData} (A : At K mg "_law_size" s__law_size ["_law_e_here"] f fd) (T : TxtB mg) : ∀ n, Has P w K mg base "_law_size" ["_law_e_here"] n (spSize n)
  | 0 => ⟨f, fd, none_left0 fun vs H Q E ⟨_, _, _, _, h1, _⟩ => by omega, A.m, A.F.kp, A.b⟩
  | n + 1 => ok__law_size_step A T (ok__law_size A T n)
end
end EW

end
section
open PySem L2 EW
local macro_rules | `(tactic| walk_at "ne") => `(tactic| first
  | assumption
  | exact Ne.symm (by assumption)
  | ((with_reducible refine' EW.RowAt.newne ?n ?h); (case n => assumption); (case h => walk_at "hp"))
  | ((with_reducible refine' Ne.symm (EW.RowAt.newne ?n ?h)); (case n => assumption); (case h => walk_at "hp"))
  | ((with_reducible refine' EW.BoxAt.newne ?n ?h); (case n => assumption); (case h => walk_at "hp"))
  | ((with_reducible refine' Ne.symm (EW.BoxAt.newne ?n ?h)); (case n => assumption); (case h => walk_at "hp")))
local macro_rules | `(tactic| walk_at "ns") => `(tactic| first
  | assumption
  | exact EW.RowAt.ne (by assumption)
  | ((with_reducible refine' EW.RowAt.notin ?n ?h); (case n => assumption); (case h => walk_at "hp")))
local macro_rules | `(tactic| walk_at "ni") => `(tactic| first
  | with_reducible exact EW.ne_mem0
  | with_reducible exact EW.dis0
  | ((with_reducible refine' EW.ne_mem1 ?h); (case h => walk_at "ne"))
  | ((with_reducible refine' EW.ne_mem2 ?h ?g); (case h => walk_at "ne"); (case g => walk_at "ne"))
  | ((with_reducible refine' EW.dis1 ?h); (case h => walk_at "ns"))
  | ((with_reducible refine' EW.dis2 ?h ?g); (case h => walk_at "ns"); (case g => walk_at "ns")))
local macro_rules | `(tactic| walk_at "hp") => `(tactic| first
  | assumption
  | ((with_reducible refine' EW.RE.mono (EW.Kp.tup ?k) ?h); (case k => assumption); (case h => walk_at "hp"))
  | ((with_reducible refine' EW.Kp.tup ?k _ _ ?h); (case k => assumption); (case h => walk_at "hp"))
  | ((with_reducible refine' EW.kp_tup ?k ?h); (case k => assumption); (case h => walk_at "hp"))
  | ((with_reducible refine' EW.Kp.keep ?k _ _ ?h ?n); (case k => assumption); (case h => walk_at "hp"); (case n => walk_at "ni"))
  | ((with_reducible refine' EW.Kp.seqL ?k ?h ?n); (case k => assumption); (case h => walk_at "hp"); (case n => walk_at "ni"))
  | ((with_reducible refine' EW.RowAt.keep ?k ?h ?n1 ?n2); (case k => assumption); (case h => walk_at "hp"); (case n1 => walk_at "ni"); (case n2 => walk_at "ni"))
  | ((with_reducible refine' EW.ScAt.keep ?k ?h ?n); (case k => assumption); (case h => walk_at "hp"); (case n => walk_at "ni"))
  | ((with_reducible refine' EW.BoxAt.keep ?k ?h ?n); (case k => assumption); (case h => walk_at "hp"); (case n => walk_at "ni"))
  | ((with_reducible refine' L2.SqL.of ?h); (case h => walk_at "hp"))
  | ((with_reducible refine' L2.SqT.of ?h); (case h => walk_at "hp")))
local macro_rules | `(tactic| walk_at "sb") => `(tactic| first
  | exact EW.sub0
  | exact EW.sub_refl
  | exact EW.sub_l
  | exact EW.sub_r)
local macro_rules | `(tactic| walk_at "kp") => `(tactic| first
  | exact EW.Kp.refl
  | assumption
  | ((with_reducible refine' EW.Kp.trans ?h (EW.Kp.mono ?k ?s)); (case k => assumption); (case s => walk_at "sb"); (case h => walk_at "kp")))
local macro_rules | `(tactic| walk_at "st") => `(tactic| first
  | with_reducible refine rd_seq ?_
  | with_reducible refine rd_next ?_
  | with_reducible refine rd_asg ?_
  | with_reducible refine rd_name ?_
  | with_reducible refine rd_ret ?_
  | with_reducible refine rd_drop ?_
  | ((with_reducible refine' rd_var ?e ?_); (case e => first | with_reducible assumption | exact rfl | assumption))
  | with_reducible refine rd_c ?_
  | with_reducible refine rd_op ?_
  | with_reducible refine rd_I0 ?_
  | with_reducible refine rd_test ?_
  | with_reducible refine rd_tB ?_
  | with_reducible refine rd_not ?_
  | with_reducible refine rd_and ?_
  | with_reducible refine rd_or ?_
  | with_reducible refine rd_ifE ?_
  | with_reducible refine rd_notV ?_
  | with_reducible refine rd_andV ?_
  | with_reducible refine rd_orV ?_
  | with_reducible refine rd_cons ?_
  | with_reducible refine EW.rd_par ?_
  | with_reducible refine EW.rd_par2 ?_
  | with_reducible refine EW.rd_parT ?_
  | with_reducible refine EW.rd_par3 ?_
  | with_reducible refine rd_nil ?_
  | with_reducible refine rd_cb ?_
  | with_reducible refine rd_call ?_
  | with_reducible refine rd_meth ?_
  | with_reducible refine rd_sub ?_
  | with_reducible refine rd_fl ?_
  | with_reducible refine rd_tup ?_
  | with_reducible refine rd_lst ?_
  | with_reducible refine rd_sl ?_
  | with_reducible refine rd_part ?_
  | with_reducible refine rd_partI ?_
  | with_reducible refine rd_nopart ?_
  | with_reducible refine rd_yes ?_
  | with_reducible refine rd_dnewK ?_
  | with_reducible refine rd_dnewT ?_
  | ((with_reducible refine' rd_isT ?h ?_); (case h => walk_at "hp"))
  | with_reducible refine rd_isI ?_
  | with_reducible refine rd_isII ?_
  | with_reducible refine rd_isIB ?_
  | ((with_reducible refine' rd_sum ?h ?_); (case h => walk_at "hp"))
  | ((with_reducible refine' rd_tail ?h ?_); (case h => walk_at "hp"))
  | ((with_reducible refine rd_newO ?_); intro _ _ _ _ _)
  | ((with_reducible refine' rd_lenS ?l ?_); (case l => exact rfl))
  | ((with_reducible refine' rd_ixS ?l ?e ?_); (case l => exact rfl); (case e => first | assumption | with_reducible exact EW.at_head | exact rfl))
  | with_reducible refine EW.ite_dT (by decide +kernel) ?_
  | with_reducible refine EW.ite_dF (by decide +kernel) ?_
  | with_reducible refine EW.ite_nT (by decide +kernel) ?_
  | with_reducible refine EW.ite_nF (by decide +kernel) ?_
  | with_reducible refine EW.iteNF ?_
  | with_reducible refine EW.iteNT ?_
  | with_reducible refine EW.iteEC ?_
  | with_reducible refine EW.iteEN ?_
  | with_reducible refine EW.iteNC ?_
  | with_reducible refine EW.iteNN ?_
  | with_reducible refine EW.rd_kget (by assumption) ?_
  | with_reducible refine EW.rd_kgx (by assumption) _ ?_
  | with_reducible refine EW.rd_ixD (by assumption) _ ?_
  | with_reducible refine EW.rd_chain ?_
  | with_reducible refine L2.iteT ?_
  | with_reducible refine L2.iteF ?_
  | with_reducible refine rd_bm ?_
  | with_reducible refine rd_bm0 ?_
  | with_reducible refine rd_sfld ?_
  | with_reducible refine rd_make ?_
  | ((with_reducible refine' rd_bmL ?s ?_); (case s => walk_at "hp"))
  | ((with_reducible refine' rd_bm0L ?s ?_); (case s => walk_at "hp"))
  | ((with_reducible refine' rd_mex ?s ?l ?_); (case s => walk_at "hp"); (case l => assumption))
  | with_reducible refine rd_lc ?_
  | with_reducible refine rd_for ?_
  | with_reducible refine rd_il ?_
  | with_reducible refine rd_it ?_
  | with_reducible refine rd_ir ?_
  | with_reducible refine rd_dput ?_
  | with_reducible refine rd_dget ?_
  | ((with_reducible refine' rd_ilx ?s ?_); (case s => walk_at "hp"))
  | ((with_reducible refine' rd_itx ?s ?_); (case s => walk_at "hp"))
  | ((with_reducible refine' rd_getK ?s ?e ?_); (case s => walk_at "hp"); (case e => assumption))
  | ((with_reducible refine rd_newT rfl ?_); intro _ _ _ _ _)
  | ((with_reducible refine rd_newL rfl ?_); intro _ _ _ _ _)
  | ((with_reducible refine' rd_taken ?a ?b ?c ?_); (case a => walk_at "hp"); (case b => first | omega | decide); (case c => first | omega | decide); intro _ _ _ _ _)
  | ((with_reducible refine' rd_neE ?a ?b ?_); (case a => walk_at "hp"); (case b => walk_at "hp"))
  | ((with_reducible refine' rd_eqE ?a ?b ?_); (case a => walk_at "hp"); (case b => walk_at "hp"))
  | with_reducible refine rd_eq rfl ?_
  | with_reducible refine rd_ne rfl ?_
  | with_reducible refine rd_bl ?_
  | ((with_reducible refine rd_I ?c ?_); (case c => first | assumption | omega | decide | (exact Or.inl ⟨by omega, by omega⟩) | (exact ⟨by omega, by omega⟩) | (exact ⟨by decide, by decide, by decide⟩)))
  | refine Or.inl ⟨_, rfl, ?_⟩
  | refine Or.inr ⟨_, rfl, ?_⟩
  | ((with_reducible refine' rd_lenL ?s ?_); (case s => walk_at "hp"))
  | ((with_reducible refine' rd_lenT ?s ?_); (case s => walk_at "hp"))
  | ((with_reducible refine' rd_ixL ?s ?e ?_); (case s => walk_at "hp"); (case e => first | assumption | with_reducible exact EW.at_head | exact rfl))
  | ((with_reducible refine' rd_ixT ?s ?e ?_); (case s => walk_at "hp"); (case e => first | assumption | with_reducible exact EW.at_head | exact rfl))
  | ((with_reducible refine' rd_flx ?s ?c ?n ?l ?_); (case s => walk_at "hp"); (case c => assumption); (case n => assumption); (case l => assumption)))
local macro_rules | `(tactic| walk_at "go") => `(tactic| repeat (walk_at "st"))
local macro_rules | `(tactic| walk_at "gi") => `(tactic| repeat (first | with_reducible refine rd_if ?_ | walk_at "st"))
namespace EW
open PySem L2
theorem rd_few {K : PySem.W.Frag} {H : Hp} {row : Addr} {S : List Addr} {want : Int} {Q : VK} {EE : XK} (h : RowAt K H row S) (h0 : 0 ≤ want)
    (k : ∀ (e : E) (v : V) H', e.Wf [] → e.depth ≤ 4 → e.size < 25 → RE H' e v → RowAt K H' row S → Kp [row] H H' → Q v H') : spFew K ([.ref row, .int want] ++ []) H Q EE := ⟨row, S, want, rfl, h, h0, k⟩
theorem rd_any {K : PySem.W.Frag} {H : Hp} {row : Addr} {S : List Addr} {Q : VK} {EE : XK} (h : RowAt K H row S)
    (k : ∀ (e : E) (v : V) H', e.Wf [] → e.depth ≤ 5 → e.size ≤ 26 → RE H' e v → RowAt K H' row S → Kp [row] H H' → Q v H') : spAny K ([.ref row] ++ []) H Q EE := ⟨row, S, rfl, h, k⟩
theorem Kp.drop {H H' : Hp} {x y : Addr} (k : Kp [x, y] H H') (n : H y = none) : Kp [x] H H' :=
  ⟨fun b o e nb => k.keep b o e (fun z => by
      rcases List.mem_cons.mp z with z | z
      · exact nb (List.mem_singleton.mpr z)
      · exact ne_of_none e n (List.mem_singleton.mp z)), k.tup, k.there⟩
theorem idx4 {r : Nat} (h : (r : Int) < 4) : ∃ z : Int, atI [V.int 0, V.int 0, V.int 1, V.int 2] (r : Int) = some (.int z) ∧ 0 ≤ z := by
  obtain rfl | rfl | rfl | rfl : r = 0 ∨ r = 1 ∨ r = 2 ∨ r = 3 := by omega
  all_goals exact ⟨_, rfl, by decide⟩
section
variable {P : Program} {w : World} {K : PySem.W.Frag} {mg : Str → Option Value} {base : Heap}
theorem ok__law_few {f : Addr} {fd : FuncData} (A : At K mg "_law_few" s__law_few ["_law_row", "_law_want"] f fd) (T : TxtB mg)
    (c__law_e : Has P w K mg base "_law_e" psE 6 (spE K 4)) (c__law_size : Has P w K mg base "_law_size" ["_law_e_here"] 5 (spSize 5)) : Has P w K mg base "_law_few" ["_law_row", "_law_want"] 7 (spFew K) := by
  obtain ⟨f__law_e, fd__law_e, G__law_e, m__law_e, k__law_e, b__law_e⟩ := c__law_e
  obtain ⟨f__law_size, fd__law_size, G__law_size, m__law_size, k__law_size, b__law_size⟩ := c__law_size
  refine ⟨f, fd, A.F.ok sc__law_few (fun vs H Q EE h => ?_) (fun cdv A outer s H vs Q EE hr h => ?_), A.m, A.F.kp, A.b⟩
  · obtain ⟨_, _, _, rfl, _⟩ := h
    rfl
  obtain ⟨row, S, want, rfl, hrow, hw, k⟩ := h
  refine ⟨_, (pss_cons (ps_set (i := 2) sc__law_few.nd rfl (Or.inl rfl) (pe_call G__law_e (hr.mono (by first | decide | omega)) (by rfl) m__law_e k__law_e b__law_e .nil pass0 (pa_cons (pv 0) (pa_cons pe_dnewK (pa_cons (pv 1) (pa_cons pe_int (pa_cons (pe_lst (pa_cons pe_int pa_nil)) pa_nil)))))))
      (pss_one (ps_ret (pe_ifExp (pt_cmpR op_lt (pe_call G__law_size (hr.mono (by first | decide | omega)) (by rfl) m__law_size k__law_size b__law_size .nil pass0 (pa_cons (pv 2) pa_nil)) pe_int (nomark _)) (pv 2) (pe_tup (pa_cons pe_str (pa_cons pe_int pa_nil))))))), ?_⟩
  refine at_st (σ' := [some (.ref row), some (.int want), none]) rfl ?_
  walk_at "go"
  rename_i c H1 n1 k1 h1 box H2 n2 k2 h2
  have hc : ScAt H2 c [] := ⟨[], k2.keep _ _ h1 List.not_mem_nil, fun _ q => (List.not_mem_nil q).elim, List.nodup_nil⟩
  have hrow2 : RowAt K H2 row S := by walk_at "hp"
  have hbox : BoxAt H2 box := ⟨16, h2⟩
  refine rd_e hrow2 hc hbox (by walk_at "ne") (ne_of_none h1 n2) (by walk_at "ne") (RowAt.notin (k1.free n2) hrow) hw (by decide) (by decide) fun e v H3 we de re hrow3 hbox3 k3 => ?_
  walk_at "go"
  refine rd_size re (by omega) fun H4 k4 => ?_
  walk_at "go"
  refine ite2 (fun cc => ?_) (fun cc => ?_)
  · walk_at "go"
    have cc' := of_decide_eq_true cc
    exact k e v H4 we (by omega) (by omega) (by walk_at "hp") (by walk_at "hp") (Kp.drop (x := row) (y := box) (by walk_at "kp") (k1.free n2))
  · walk_at "go"
    rename_i p5 H5 n5 k5 h5
    exact k (.num 7) _ H5 (by show 7 < 1000; decide) (by decide) (by decide) ⟨p5, rfl, h5⟩ (by walk_at "hp") (Kp.drop (x := row) (y := box) (by walk_at "kp") (k1.free n2))
theorem ok__law_any {f : Addr} {fd : FuncData} (A : At K mg "_law_any" s__law_any ["_law_row"] f fd) (T : TxtB mg)
    (c__law_taken : Has P w K mg base "_law_taken" ["_law_row", "_law_many"] 1 (spTaken K)) (c__law_few : Has P w K mg base "_law_few" ["_law_row", "_law_want"] 7 (spFew K)) : Has P w K mg base "_law_any" ["_law_row"] 8 (spAny K) := by
  obtain ⟨f__law_taken, fd__law_taken, G__law_taken, m__law_taken, k__law_taken, b__law_taken⟩ := c__law_taken
  obtain ⟨f__law_few, fd__law_few, G__law_few, m__law_few, k__law_few, b__law_few⟩ := c__law_few
  refine ⟨f, fd, A.F.ok sc__law_any (fun vs H Q EE h => ?_) (fun cdv A outer s H vs Q EE hr h => ?_), A.m, A.F.kp, A.b⟩
  · obtain ⟨_, _, rfl, _⟩ := h
    rfl
  obtain ⟨row, S, rfl, hrow, k⟩ := h
  refine ⟨_, (pss_cons (ps_set (i := 1) sc__law_any.nd rfl (Or.inl rfl) (pe_call G__law_few (hr.mono (by first | decide | omega)) (by rfl) m__law_few k__law_few b__law_few .nil pass0 (pa_cons (pv 0) (pa_cons (pe_ix (w_ixL (K := K) rfl) (pe_lst (pa_cons pe_int (pa_cons pe_int (pa_cons pe_int (pa_cons pe_int pa_nil))))) (pe_call G__law_taken (hr.mono (by first | decide | omega)) (by rfl) m__law_taken k__law_taken b__law_taken .nil pass0 (pa_cons (pv 0) (pa_cons pe_int pa_nil))) (fun _ _ => rfl)) pa_nil))))
      (pss_cons (ps_set (i := 2) sc__law_any.nd rfl (Or.inl rfl) (pe_tup (pa_cons pe_str (pa_cons pe_int (pa_cons (pe_tup (pa_cons pe_str (pa_cons (pe_tup (pa_cons pe_str (pa_cons pe_int pa_nil))) (pa_cons (pe_tup (pa_cons pe_str (pa_cons pe_int pa_nil))) pa_nil)))) pa_nil)))))
      (pss_cons (ps_set (i := 3) sc__law_any.nd rfl (Or.inl rfl) (pe_call G__law_taken (hr.mono (by first | decide | omega)) (by rfl) m__law_taken k__law_taken b__law_taken .nil pass0 (pa_cons (pv 0) (pa_cons pe_int pa_nil))))
      (pss_cons (ps_if (pt_cmpR op_eq (pv 3) pe_int (nomark _))
        (pss_one (ps_ret (pe_tup (pa_cons pe_str (pa_cons (pe_tup (pa_cons pe_str (pa_cons pe_int pa_nil))) (pa_cons (pv 1) pa_nil))))))
        pss_nil)
      (pss_cons (ps_if (pt_cmpR op_eq (pv 3) pe_int (nomark _))
        (pss_one (ps_ret (pe_tup (pa_cons pe_str (pa_cons (pv 2) (pa_cons (pv 2) pa_nil))))))
        pss_nil)
      (pss_one (ps_ret (pe_ifExp (pt_cmpR op_eq (pv 3) pe_int (nomark _)) (pe_tup (pa_cons pe_str (pa_cons (pv 1) (pa_cons (pe_tup (pa_cons pe_str (pa_cons pe_int pa_nil))) pa_nil)))) (pv 1))))))))), ?_⟩
  refine at_st (σ' := [some (.ref row), none, none, none]) rfl ?_
  walk_at "go"
  rename_i r1 H1 h1 hrow1 k1
  obtain ⟨z, ez, hz⟩ := idx4 h1
  walk_at "go"
  refine rd_few (by walk_at "hp") hz fun e v H2 we de se re hrow2 k2 => ?_
  walk_at "go"
  rename_i way H6 hway hrow6 k6
  refine rd_if ?_
  walk_at "go"
  refine ite2 (fun cc => ?_) (fun cc => ?_)
  · walk_at "go"
    exact k (.call (.num 1) e) _ _ ⟨by show 1 < 1000; decide, we⟩ (by show 1 + max 0 e.depth ≤ 5; omega) (by show 1 + (1 + e.size) ≤ 26; omega) ⟨_, _, _, rfl, by assumption, ⟨_, rfl, by walk_at "hp"⟩, by walk_at "hp"⟩ (by walk_at "hp") (by walk_at "kp")
  · walk_at "st"
    walk_at "st"
    refine rd_if ?_
    walk_at "go"
    refine ite2 (fun cc => ?_) (fun cc => ?_)
    · walk_at "go"
      have wf : (EW.E.fn 0 (.call (.name 0) (.name 0))).Wf [] := ⟨by decide, ⟨by decide, List.mem_cons_self⟩, ⟨by decide, List.mem_cons_self⟩⟩
      exact k (.call (.fn 0 (.call (.name 0) (.name 0))) (.fn 0 (.call (.name 0) (.name 0)))) _ _ ⟨wf, wf⟩ (by decide) (by decide)
        ⟨_, _, _, rfl, by assumption, ⟨_, _, rfl, by walk_at "hp", ⟨_, _, _, rfl, by walk_at "hp", ⟨_, rfl, by walk_at "hp"⟩, ⟨_, rfl, by walk_at "hp"⟩⟩⟩, ⟨_, _, rfl, by walk_at "hp", ⟨_, _, _, rfl, by walk_at "hp", ⟨_, rfl, by walk_at "hp"⟩, ⟨_, rfl, by walk_at "hp"⟩⟩⟩⟩ (by walk_at "hp") (by walk_at "kp")
    · walk_at "go"
      refine ite2 (fun cc => ?_) (fun cc => ?_)
      · walk_at "go"
        exact k (.plus e (.num 5)) _ _ ⟨we, by show 5 < 1000; decide⟩ (by show 1 + max e.depth 0 ≤ 5; omega) (by show 1 + (e.size + 1) ≤ 26; omega) ⟨_, _, _, rfl, by assumption, by walk_at "hp", ⟨_, rfl, by walk_at "hp"⟩⟩ (by walk_at "hp") (by walk_at "kp")
      · walk_at "go"
        exact k e v _ we (by omega) (by omega) (by walk_at "hp") (by walk_at "hp") (by walk_at "kp")
end
end EW

end
section
open PySem L2 EW
local macro_rules | `(tactic| walk_at "ne") => `(tactic| first
  | assumption
  | exact Ne.symm (by assumption)
  | ((with_reducible refine' EW.RowAt.newne ?n ?h); (case n => assumption); (case h => walk_at "hp"))
  | ((with_reducible refine' Ne.symm (EW.RowAt.newne ?n ?h)); (case n => assumption); (case h => walk_at "hp"))
  | ((with_reducible refine' EW.BoxAt.newne ?n ?h); (case n => assumption); (case h => walk_at "hp"))
  | ((with_reducible refine' Ne.symm (EW.BoxAt.newne ?n ?h)); (case n => assumption); (case h => walk_at "hp")))
local macro_rules | `(tactic| walk_at "ns") => `(tactic| first
  | assumption
  | exact EW.RowAt.ne (by assumption)
  | ((with_reducible refine' EW.RowAt.notin ?n ?h); (case n => assumption); (case h => walk_at "hp")))
local macro_rules | `(tactic| walk_at "ni") => `(tactic| first
  | with_reducible exact EW.ne_mem0
  | with_reducible exact EW.dis0
  | ((with_reducible refine' EW.ne_mem1 ?h); (case h => walk_at "ne"))
  | ((with_reducible refine' EW.ne_mem2 ?h ?g); (case h => walk_at "ne"); (case g => walk_at "ne"))
  | ((with_reducible refine' EW.dis1 ?h); (case h => walk_at "ns"))
  | ((with_reducible refine' EW.dis2 ?h ?g); (case h => walk_at "ns"); (case g => walk_at "ns")))
local macro_rules | `(tactic| walk_at "hp") => `(tactic| first
  | assumption
  | ((with_reducible refine' EW.RE.mono (EW.Kp.tup ?k) ?h); (case k => assumption); (case h => walk_at "hp"))
  | ((with_reducible refine' EW.Kp.tup ?k _ _ ?h); (case k => assumption); (case h => walk_at "hp"))
  | ((with_reducible refine' EW.kp_tup ?k ?h); (case k => assumption); (case h => walk_at "hp"))
  | ((with_reducible refine' EW.Kp.keep ?k _ _ ?h ?n); (case k => assumption); (case h => walk_at "hp"); (case n => walk_at "ni"))
  | ((with_reducible refine' EW.Kp.seqL ?k ?h ?n); (case k => assumption); (case h => walk_at "hp"); (case n => walk_at "ni"))
  | ((with_reducible refine' EW.RowAt.keep ?k ?h ?n1 ?n2); (case k => assumption); (case h => walk_at "hp"); (case n1 => walk_at "ni"); (case n2 => walk_at "ni"))
  | ((with_reducible refine' EW.ScAt.keep ?k ?h ?n); (case k => assumption); (case h => walk_at "hp"); (case n => walk_at "ni"))
  | ((with_reducible refine' EW.BoxAt.keep ?k ?h ?n); (case k => assumption); (case h => walk_at "hp"); (case n => walk_at "ni"))
  | ((with_reducible refine' L2.SqL.of ?h); (case h => walk_at "hp"))
  | ((with_reducible refine' L2.SqT.of ?h); (case h => walk_at "hp")))
local macro_rules | `(tactic| walk_at "sb") => `(tactic| first
  | exact EW.sub0
  | exact EW.sub_refl
  | exact EW.sub_l
  | exact EW.sub_r)
local macro_rules | `(tactic| walk_at "kp") => `(tactic| first
  | exact EW.Kp.refl
  | assumption
  | ((with_reducible refine' EW.Kp.trans ?h (EW.Kp.mono ?k ?s)); (case k => assumption); (case s => walk_at "sb"); (case h => walk_at "kp")))
local macro_rules | `(tactic| walk_at "st") => `(tactic| first
  | with_reducible refine rd_seq ?_
  | with_reducible refine rd_next ?_
  | with_reducible refine rd_asg ?_
  | with_reducible refine rd_name ?_
  | with_reducible refine rd_ret ?_
  | with_reducible refine rd_drop ?_
  | ((with_reducible refine' rd_var ?e ?_); (case e => first | with_reducible assumption | exact rfl | assumption))
  | with_reducible refine rd_c ?_
  | with_reducible refine rd_op ?_
  | with_reducible refine rd_I0 ?_
  | with_reducible refine rd_test ?_
  | with_reducible refine rd_tB ?_
  | with_reducible refine rd_not ?_
  | with_reducible refine rd_and ?_
  | with_reducible refine rd_or ?_
  | with_reducible refine rd_ifE ?_
  | with_reducible refine rd_notV ?_
  | with_reducible refine rd_andV ?_
  | with_reducible refine rd_orV ?_
  | with_reducible refine rd_cons ?_
  | with_reducible refine EW.rd_par ?_
  | with_reducible refine EW.rd_par2 ?_
  | with_reducible refine EW.rd_parT ?_
  | with_reducible refine EW.rd_par3 ?_
  | with_reducible refine rd_nil ?_
  | with_reducible refine rd_cb ?_
  | with_reducible refine rd_call ?_
  | with_reducible refine rd_meth ?_
  | with_reducible refine rd_sub ?_
  | with_reducible refine rd_fl ?_
  | with_reducible refine rd_tup ?_
  | with_reducible refine rd_lst ?_
  | with_reducible refine rd_sl ?_
  | with_reducible refine rd_part ?_
  | with_reducible refine rd_partI ?_
  | with_reducible refine rd_nopart ?_
  | with_reducible refine rd_yes ?_
  | with_reducible refine rd_dnewK ?_
  | with_reducible refine rd_dnewT ?_
  | ((with_reducible refine' rd_isT ?h ?_); (case h => walk_at "hp"))
  | with_reducible refine rd_isI ?_
  | with_reducible refine rd_isII ?_
  | with_reducible refine rd_isIB ?_
  | ((with_reducible refine' rd_sum ?h ?_); (case h => walk_at "hp"))
  | ((with_reducible refine' rd_tail ?h ?_); (case h => walk_at "hp"))
  | ((with_reducible refine rd_newO ?_); intro _ _ _ _ _)
  | ((with_reducible refine' rd_lenS ?l ?_); (case l => exact rfl))
  | ((with_reducible refine' rd_ixS ?l ?e ?_); (case l => exact rfl); (case e => first | assumption | with_reducible exact EW.at_head | exact rfl))
  | with_reducible refine EW.ite_dT (by decide +kernel) ?_
  | with_reducible refine EW.ite_dF (by decide +kernel) ?_
  | with_reducible refine EW.ite_nT (by decide +kernel) ?_
  | with_reducible refine EW.ite_nF (by decide +kernel) ?_
  | with_reducible refine EW.iteNF ?_
  | with_reducible refine EW.iteNT ?_
  | with_reducible refine EW.iteEC ?_
  | with_reducible refine EW.iteEN ?_
  | with_reducible refine EW.iteNC ?_
  | with_reducible refine EW.iteNN ?_
  | with_reducible refine EW.rd_kget (by assumption) ?_
  | with_reducible refine EW.rd_kgx (by assumption) _ ?_
  | with_reducible refine EW.rd_ixD (by assumption) _ ?_
  | with_reducible refine EW.rd_chain ?_
  | with_reducible refine L2.iteT ?_
  | with_reducible refine L2.iteF ?_
  | with_reducible refine rd_bm ?_
  | with_reducible refine rd_bm0 ?_
  | with_reducible refine rd_sfld ?_
  | with_reducible refine rd_make ?_
  | ((with_reducible refine' rd_bmL ?s ?_); (case s => walk_at "hp"))
  | ((with_reducible refine' rd_bm0L ?s ?_); (case s => walk_at "hp"))
  | ((with_reducible refine' rd_mex ?s ?l ?_); (case s => walk_at "hp"); (case l => assumption))
  | with_reducible refine rd_lc ?_
  | with_reducible refine rd_for ?_
  | with_reducible refine rd_il ?_
  | with_reducible refine rd_it ?_
  | with_reducible refine rd_ir ?_
  | with_reducible refine rd_dput ?_
  | with_reducible refine rd_dget ?_
  | ((with_reducible refine' rd_ilx ?s ?_); (case s => walk_at "hp"))
  | ((with_reducible refine' rd_itx ?s ?_); (case s => walk_at "hp"))
  | ((with_reducible refine' rd_getK ?s ?e ?_); (case s => walk_at "hp"); (case e => assumption))
  | ((with_reducible refine rd_newT rfl ?_); intro _ _ _ _ _)
  | ((with_reducible refine rd_newL rfl ?_); intro _ _ _ _ _)
  | ((with_reducible refine' rd_taken ?a ?b ?c ?_); (case a => walk_at "hp"); (case b => first | omega | decide); (case c => first | omega | decide); intro _ _ _ _ _)
  | ((with_reducible refine' rd_neE ?a ?b ?_); (case a => walk_at "hp"); (case b => walk_at "hp"))
  | ((with_reducible refine' rd_eqE ?a ?b ?_); (case a => walk_at "hp"); (case b => walk_at "hp"))
  | with_reducible refine rd_eq rfl ?_
  | with_reducible refine rd_ne rfl ?_
  | with_reducible refine rd_bl ?_
  | ((with_reducible refine rd_I ?c ?_); (case c => first | assumption | omega | decide | (exact Or.inl ⟨by omega, by omega⟩) | (exact ⟨by omega, by omega⟩) | (exact ⟨by decide, by decide, by decide⟩)))
  | refine Or.inl ⟨_, rfl, ?_⟩
  | refine Or.inr ⟨_, rfl, ?_⟩
  | ((with_reducible refine' rd_lenL ?s ?_); (case s => walk_at "hp"))
  | ((with_reducible refine' rd_lenT ?s ?_); (case s => walk_at "hp"))
  | ((with_reducible refine' rd_ixL ?s ?e ?_); (case s => walk_at "hp"); (case e => first | assumption | with_reducible exact EW.at_head | exact rfl))
  | ((with_reducible refine' rd_ixT ?s ?e ?_); (case s => walk_at "hp"); (case e => first | assumption | with_reducible exact EW.at_head | exact rfl))
  | ((with_reducible refine' rd_flx ?s ?c ?n ?l ?_); (case s => walk_at "hp"); (case c => assumption); (case n => assumption); (case l => assumption)))
local macro_rules | `(tactic| walk_at "go") => `(tactic| repeat (walk_at "st"))
local macro_rules | `(tactic| walk_at "gi") => `(tactic| repeat (first | with_reducible refine rd_if ?_ | walk_at "st"))
namespace EW
open PySem L2
section
variable {X : Cx} {K : PySem.W.Frag} {w : World} {o e f : Expr} {apos cpos : Pos} {td ty tx : TE}
/-- d.get(k, x) of a written dict with text keys, the key is there -/
def tKGet2 (K : PySem.W.Frag) (w : World) (td ty tx : TE) : TE := fun σ H Q => td σ H fun x H1 => ∃ (d : Addr) (es : Array DictEntry) (n : Nat), x = .ref d ∧ KDict K w d es n ∧
  ty σ H1 fun y H2 => tx σ H2 fun _ H3 => ∃ (k : Str) (u0 : Value) (v0 : V), y = .str k ∧ PySem.W.nsIn K d k = some (some u0) ∧ RelV v0 u0 ∧ Q v0 H3
theorem pe_kget2 (hK : X.K = K) (hw : X.w = w) (ho : PE X o td) (he : PE X e ty) (hf : PE X f tx) (m : M2 X o "get" apos e f cpos) : PE X (.Call (.Attribute o "get" apos) [e, f] [] cpos) (tKGet2 K w td ty tx) := by
  subst hK hw
  refine ⟨fun pn sh sg hp Q inv hh => ?_⟩
  refine PySem.wpAny_Call_method m.base m.few m.line PySem.F.plainAttrs_dict PySem.F.slot_dict_get PySem.F.type_dict_get (thn (ho.run pn sh sg hp _ inv hh) fun u s1 ⟨x, H1, inv1, rx, d, es, n, ex, kd, q1⟩ => ?_)
  subst ex
  cases rx
  have mp := PySem.W.mapOf_K (prog := X.prog) (w := X.w) inv1.kIn kd.at_ kd.lit
  refine ⟨mp.typeIs, fun b eb => ?_, ?_⟩
  · cases eb
    exact ⟨_, inv1.kIn _ _ kd.at_, rfl⟩
  rw [m.trees]
  refine Calls.callWith_builtin rfl (Calls.evalArgs_plain (Calls.spliced_cons (thn (he.run pn s1 sg H1 _ inv1 q1) fun iv s2 ⟨y, H2, inv2, ry, q2⟩ =>
    Calls.spliced_cons (thn (hf.run pn s2 sg H2 _ inv2 q2) fun fv s3 ⟨z, H3, inv3, rz, k, u0, v0, ek, ens, rv, q3⟩ => Calls.spliced_nil ?_))))
  subst ek
  obtain ⟨t, rfl⟩ := ry
  have mp3 := PySem.W.mapOf_K (prog := X.prog) (w := X.w) inv3.kIn kd.at_ kd.lit
  refine call_meetsIn PySem.F.slot_dict_get mp3.typeIs PySem.F.entry_dict_get (PySem.F.args_dict_get_3 _ _ _) (meets_dict_get_default (PySem.strKind X.prog X.w) d (PySem.strKind_is X.prog X.w k t) kd.low fv) ⟨_, mp3, v0, H3, inv3.tok _, ?_, q3⟩
  rw [PySem.W.find_K kd.at_ ens]
  exact rv
theorem w_ixK (hK : X.K = K) (hw : X.w = w) : IxR X (rIxD K w) := by subst hK hw; exact ix_kdict
theorem w_gint {x : Str} {n : Int} {pos : Pos} (hg : Gl X x) (hm : ∃ t, X.mg x = some (.int n t)) (hd : (x == ("__debug__" : Str)) = false := by decide) : PE X (.Name x pos) (tC (.int n)) := by
  obtain ⟨t, h⟩ := hm
  exact pe_glob hg h ⟨t, rfl⟩ hd
end
/-- what the top has of programs.py (C: the class Sites, sh: the table SHAPES) -/
structure TxtP (K : PySem.W.Frag) (w : World) (mg : Str → Option Value) (sh C : Addr) : Prop extends TxtB mg where
  m_LIMIT : ∃ t, mg "LIMIT" = some (.int 1000 t)
  m_NAMES : ∃ t, mg "NAMES" = some (.int 10 t)
  m_MOST_PARTS : ∃ t, mg "MOST_PARTS" = some (.int 60 t)
  m_MOST_WITHIN : ∃ t, mg "MOST_WITHIN" = some (.int 7 t)
  m_SHAPES : mg "SHAPES" = some (.ref sh)
  kd : ∃ es n, KDict K w sh es n
  shp : ∀ e : E, ∃ u, PySem.W.nsIn K sh e.word = some (some u) ∧ RelV (.str e.shape) u
  m_Sites : mg "Sites" = some (.ref C)
  cl_Sites : Cls K C
  n_owners : NoAttr K C "owners"
  n_funs : NoAttr K C "funs"
  n_used : NoAttr K C "used"
  n_tree : NoAttr K C "tree"
section
variable {K : PySem.W.Frag} {w : World}
def KG (K : PySem.W.Frag) (d : Addr) (y : V) (H : Hp) (Q : VK) : Prop := ∃ (k : Str) (u0 : Value) (v0 : V), y = .str k ∧ PySem.W.nsIn K d k = some (some u0) ∧ RelV v0 u0 ∧ Q v0 H
theorem rd_kget {mg : Str → Option Value} {sh C : Addr} {ty tx : TE} {σ : L2.St} {H : Hp} {Q : VK} (T : TxtP K w mg sh C) (h : ty σ H fun y H2 => tx σ H2 fun _ H3 => KG K sh y H3 Q) : tKGet2 K w (tC (.ref sh)) ty tx σ H Q := by
  obtain ⟨es, n, kd⟩ := T.kd
  exact ⟨sh, es, n, rfl, kd, h⟩
theorem rd_kgx {mg : Str → Option Value} {sh C : Addr} {H : Hp} {Q : VK} (T : TxtP K w mg sh C) (e : E) (h : Q (.str e.shape) H) : KG K sh (.str e.word) H Q := by
  obtain ⟨u, hu, hr⟩ := T.shp e
  exact ⟨e.word, u, .str e.shape, rfl, hu, hr, h⟩
theorem rd_ixD {mg : Str → Option Value} {sh C : Addr} {H : Hp} {Q : VK} (T : TxtP K w mg sh C) (e : E) (h : Q (.str e.shape) H) : rIxD K w (.ref sh) (.str e.word) H Q := by
  obtain ⟨es, n, kd⟩ := T.kd
  obtain ⟨u, hu, hr⟩ := T.shp e
  exact ⟨sh, e.word, .str e.shape, rfl, rfl, ⟨es, n, u, kd.at_, kd.lit, hu, hr⟩, h⟩
end
end EW

end
section
open PySem L2 EW
local macro_rules | `(tactic| walk_at "ne") => `(tactic| first
  | assumption
  | exact Ne.symm (by assumption)
  | ((with_reducible refine' EW.RowAt.newne ?n ?h); (case n => assumption); (case h => walk_at "hp"))
  | ((with_reducible refine' Ne.symm (EW.RowAt.newne ?n ?h)); (case n => assumption); (case h => walk_at "hp"))
  | ((with_reducible refine' EW.BoxAt.newne ?n ?h); (case n => assumption); (case h => walk_at "hp"))
  | ((with_reducible refine' Ne.symm (EW.BoxAt.newne ?n ?h)); (case n => assumption); (case h => walk_at "hp")))
local macro_rules | `(tactic| walk_at "ns") => `(tactic| first
  | assumption
  | exact EW.RowAt.ne (by assumption)
  | ((with_reducible refine' EW.RowAt.notin ?n ?h); (case n => assumption); (case h => walk_at "hp")))
local macro_rules | `(tactic| walk_at "ni") => `(tactic| first
  | with_reducible exact EW.ne_mem0
  | with_reducible exact EW.dis0
  | ((with_reducible refine' EW.ne_mem1 ?h); (case h => walk_at "ne"))
  | ((with_reducible refine' EW.ne_mem2 ?h ?g); (case h => walk_at "ne"); (case g => walk_at "ne"))
  | ((with_reducible refine' EW.dis1 ?h); (case h => walk_at "ns"))
  | ((with_reducible refine' EW.dis2 ?h ?g); (case h => walk_at "ns"); (case g => walk_at "ns")))
local macro_rules | `(tactic| walk_at "hp") => `(tactic| first
  | assumption
  | ((with_reducible refine' EW.RE.mono (EW.Kp.tup ?k) ?h); (case k => assumption); (case h => walk_at "hp"))
  | ((with_reducible refine' EW.Kp.tup ?k _ _ ?h); (case k => assumption); (case h => walk_at "hp"))
  | ((with_reducible refine' EW.kp_tup ?k ?h); (case k => assumption); (case h => walk_at "hp"))
  | ((with_reducible refine' EW.Kp.keep ?k _ _ ?h ?n); (case k => assumption); (case h => walk_at "hp"); (case n => walk_at "ni"))
  | ((with_reducible refine' EW.Kp.seqL ?k ?h ?n); (case k => assumption); (case h => walk_at "hp"); (case n => walk_at "ni"))
  | ((with_reducible refine' EW.RowAt.keep ?k ?h ?n1 ?n2); (case k => assumption); (case h => walk_at "hp"); (case n1 => walk_at "ni"); (case n2 => walk_at "ni"))
  | ((with_reducible refine' EW.ScAt.keep ?k ?h ?n); (case k => assumption); (case h => walk_at "hp"); (case n => walk_at "ni"))
  | ((with_reducible refine' EW.BoxAt.keep ?k ?h ?n); (case k => assumption); (case h => walk_at "hp"); (case n => walk_at "ni"))
  | ((with_reducible refine' L2.SqL.of ?h); (case h => walk_at "hp"))
  | ((with_reducible refine' L2.SqT.of ?h); (case h => walk_at "hp")))
local macro_rules | `(tactic| walk_at "sb") => `(tactic| first
  | exact EW.sub0
  | exact EW.sub_refl
  | exact EW.sub_l
  | exact EW.sub_r)
local macro_rules | `(tactic| walk_at "kp") => `(tactic| first
  | exact EW.Kp.refl
  | assumption
  | ((with_reducible refine' EW.Kp.trans ?h (EW.Kp.mono ?k ?s)); (case k => assumption); (case s => walk_at "sb"); (case h => walk_at "kp")))
local macro_rules | `(tactic| walk_at "st") => `(tactic| first
  | with_reducible refine rd_seq ?_
  | with_reducible refine rd_next ?_
  | with_reducible refine rd_asg ?_
  | with_reducible refine rd_name ?_
  | with_reducible refine rd_ret ?_
  | with_reducible refine rd_drop ?_
  | ((with_reducible refine' rd_var ?e ?_); (case e => first | with_reducible assumption | exact rfl | assumption))
  | with_reducible refine rd_c ?_
  | with_reducible refine rd_op ?_
  | with_reducible refine rd_I0 ?_
  | with_reducible refine rd_test ?_
  | with_reducible refine rd_tB ?_
  | with_reducible refine rd_not ?_
  | with_reducible refine rd_and ?_
  | with_reducible refine rd_or ?_
  | with_reducible refine rd_ifE ?_
  | with_reducible refine rd_notV ?_
  | with_reducible refine rd_andV ?_
  | with_reducible refine rd_orV ?_
  | with_reducible refine rd_cons ?_
  | with_reducible refine EW.rd_par ?_
  | with_reducible refine EW.rd_par2 ?_
  | with_reducible refine EW.rd_parT ?_
  | with_reducible refine EW.rd_par3 ?_
  | with_reducible refine rd_nil ?_
  | with_reducible refine rd_cb ?_
  | with_reducible refine rd_call ?_
  | with_reducible refine rd_meth ?_
  | with_reducible refine rd_sub ?_
  | with_reducible refine rd_fl ?_
  | with_reducible refine rd_tup ?_
  | with_reducible refine rd_lst ?_
  | with_reducible refine rd_sl ?_
  | with_reducible refine rd_part ?_
  | with_reducible refine rd_partI ?_
  | with_reducible refine rd_nopart ?_
  | with_reducible refine rd_yes ?_
  | with_reducible refine rd_dnewK ?_
  | with_reducible refine rd_dnewT ?_
  | ((with_reducible refine' rd_isT ?h ?_); (case h => walk_at "hp"))
  | with_reducible refine rd_isI ?_
  | with_reducible refine rd_isII ?_
  | with_reducible refine rd_isIB ?_
  | ((with_reducible refine' rd_sum ?h ?_); (case h => walk_at "hp"))
  | ((with_reducible refine' rd_tail ?h ?_); (case h => walk_at "hp"))
  | ((with_reducible refine rd_newO ?_); intro _ _ _ _ _)
  | ((with_reducible refine' rd_lenS ?l ?_); (case l => exact rfl))
  | ((with_reducible refine' rd_ixS ?l ?e ?_); (case l => exact rfl); (case e => first | assumption | with_reducible exact EW.at_head | exact rfl))
  | with_reducible refine EW.ite_dT (by decide +kernel) ?_
  | with_reducible refine EW.ite_dF (by decide +kernel) ?_
  | with_reducible refine EW.ite_nT (by decide +kernel) ?_
  | with_reducible refine EW.ite_nF (by decide +kernel) ?_
  | with_reducible refine EW.iteNF ?_
  | with_reducible refine EW.iteNT ?_
  | with_reducible refine EW.iteEC ?_
  | with_reducible refine EW.iteEN ?_
  | with_reducible refine EW.iteNC ?_
  | with_reducible refine EW.iteNN ?_
  | with_reducible refine EW.rd_kget (by assumption) ?_
  | with_reducible refine EW.rd_kgx (by assumption) _ ?_
  | with_reducible refine EW.rd_ixD (by assumption) _ ?_
  | with_reducible refine EW.rd_chain ?_
  | with_reducible refine L2.iteT ?_
  | with_reducible refine L2.iteF ?_
  | with_reducible refine rd_bm ?_
  | with_reducible refine rd_bm0 ?_
  | with_reducible refine rd_sfld ?_
  | with_reducible refine rd_make ?_
  | ((with_reducible refine' rd_bmL ?s ?_); (case s => walk_at "hp"))
  | ((with_reducible refine' rd_bm0L ?s ?_); (case s => walk_at "hp"))
  | ((with_reducible refine' rd_mex ?s ?l ?_); (case s => walk_at "hp"); (case l => assumption))
  | with_reducible refine rd_lc ?_
  | with_reducible refine rd_for ?_
  | with_reducible refine rd_il ?_
  | with_reducible refine rd_it ?_
  | with_reducible refine rd_ir ?_
  | with_reducible refine rd_dput ?_
  | with_reducible refine rd_dget ?_
  | ((with_reducible refine' rd_ilx ?s ?_); (case s => walk_at "hp"))
  | ((with_reducible refine' rd_itx ?s ?_); (case s => walk_at "hp"))
  | ((with_reducible refine' rd_getK ?s ?e ?_); (case s => walk_at "hp"); (case e => assumption))
  | ((with_reducible refine rd_newT rfl ?_); intro _ _ _ _ _)
  | ((with_reducible refine rd_newL rfl ?_); intro _ _ _ _ _)
  | ((with_reducible refine' rd_taken ?a ?b ?c ?_); (case a => walk_at "hp"); (case b => first | omega | decide); (case c => first | omega | decide); intro _ _ _ _ _)
  | ((with_reducible refine' rd_neE ?a ?b ?_); (case a => walk_at "hp"); (case b => walk_at "hp"))
  | ((with_reducible refine' rd_eqE ?a ?b ?_); (case a => walk_at "hp"); (case b => walk_at "hp"))
  | with_reducible refine rd_eq rfl ?_
  | with_reducible refine rd_ne rfl ?_
  | with_reducible refine rd_bl ?_
  | ((with_reducible refine rd_I ?c ?_); (case c => first | assumption | omega | decide | (exact Or.inl ⟨by omega, by omega⟩) | (exact ⟨by omega, by omega⟩) | (exact ⟨by decide, by decide, by decide⟩)))
  | refine Or.inl ⟨_, rfl, ?_⟩
  | refine Or.inr ⟨_, rfl, ?_⟩
  | ((with_reducible refine' rd_lenL ?s ?_); (case s => walk_at "hp"))
  | ((with_reducible refine' rd_lenT ?s ?_); (case s => walk_at "hp"))
  | ((with_reducible refine' rd_ixL ?s ?e ?_); (case s => walk_at "hp"); (case e => first | assumption | with_reducible exact EW.at_head | exact rfl))
  | ((with_reducible refine' rd_ixT ?s ?e ?_); (case s => walk_at "hp"); (case e => first | assumption | with_reducible exact EW.at_head | exact rfl))
  | ((with_reducible refine' rd_flx ?s ?c ?n ?l ?_); (case s => walk_at "hp"); (case c => assumption); (case n => assumption); (case l => assumption)))
local macro_rules | `(tactic| walk_at "go") => `(tactic| repeat (walk_at "st"))
local macro_rules | `(tactic| walk_at "gi") => `(tactic| repeat (first | with_reducible refine rd_if ?_ | walk_at "st"))
namespace EW
open PySem L2
def spIsNum : Sp := fun vs H Q _ => ∃ (n b : Int), vs = [.int n, .int b] ∧ 0 ≤ n ∧ n < b ∧ Q (.bl true) H
/-- the names in the part behind the place i + 1 -/
def spNamesIn : Sp := fun vs H Q _ => ∃ (e : E) (v : V) (i : Nat) (l : Addr) (B : List Nat), vs = [v, .int ((i : Int) + 1), .ref l] ∧ RE H e v ∧ H l = some (.lst (B.map nV)) ∧ B.length < 100 ∧
  ∀ (r : Addr) H', Kp [] H H' → H' r = some (.lst ((more B (e.bnd i)).map nV)) → Q (.ref r) H'
def spIsExp (n : Nat) : Sp := fun vs H Q _ => ∃ (e : E) (v : V) (l : Addr) (B : List Nat) (wi : Nat), vs = [v, .ref l, .int (wi : Int)] ∧ RE H e v ∧ H l = some (.lst (B.map nV)) ∧ B.length + n < 100 ∧ e.Wf B ∧ wi + e.depth ≤ 7 ∧ e.depth < n ∧
  ∀ H', Kp [] H H' → Q (.bl true) H'
theorem rd_isNum {H : Hp} {n b : Int} {Q : VK} {EE : XK} (h0 : 0 ≤ n) (h1 : n < b) (k : Q (.bl true) H) : spIsNum ([.int n, .int b] ++ []) H Q EE := ⟨n, b, rfl, h0, h1, k⟩
theorem rd_namesIn {H : Hp} {e : E} {v : V} {i : Nat} {l : Addr} {B : List Nat} {Q : VK} {EE : XK} (h : RE H e v) (hl : H l = some (.lst (B.map nV))) (hb : B.length < 100)
    (k : ∀ (r : Addr) H', Kp [] H H' → H' r = some (.lst ((more B (e.bnd i)).map nV)) → Q (.ref r) H') : spNamesIn ([v, .int ((i : Int) + 1), .ref l] ++ []) H Q EE := ⟨e, v, i, l, B, rfl, h, hl, hb, k⟩
theorem rd_isExp {n : Nat} {H : Hp} {e : E} {v : V} {l : Addr} {B : List Nat} {wi : Nat} {Q : VK} {EE : XK} (h : RE H e v) (hl : H l = some (.lst (B.map nV))) (hb : B.length + n < 100) (hw : e.Wf B) (h7 : wi + e.depth ≤ 7) (hd : e.depth < n) (k : ∀ H', Kp [] H H' → Q (.bl true) H') :
    spIsExp n ([v, .ref l, .int (wi : Int)] ++ []) H Q EE := ⟨e, v, l, B, wi, rfl, h, hl, hb, hw, h7, hd, k⟩
theorem shape_ne (e : E) : ¬ V.str e.shape = V.str "" := by cases e <;> simp only [E.shape] <;> decide +kernel
theorem sign_e {c : Nat} (h : V.str ⟨#[c]⟩ = V.str "e") : c = 101 := by
  have e1 : ("e" : Str) = ⟨#[101]⟩ := by decide +kernel
  rw [e1] at h
  injection h with h
  injection h with h
  have := congrArg (fun a : Array Nat => a[0]?) h
  simpa using this
theorem shape_len (e : E) : e.shape.length ≤ 3 := by cases e <;> simp only [E.shape] <;> decide
theorem shape_num {e : E} (h : ∀ m, e ≠ .num m) : ¬ V.str e.shape = V.str "n" := by
  cases e with
  | num m => exact absurd rfl (h m)
  | _ => simp only [E.shape] <;> decide +kernel
theorem shape_name {e : E} (h : ∀ m, e ≠ .name m) : ¬ V.str e.shape = V.str "k" := by
  cases e with
  | name m => exact absurd rfl (h m)
  | _ => simp only [E.shape] <;> decide +kernel
section
variable {P : Program} {w : World} {K : PySem.W.Frag} {mg : Str → Option Value} {base : Heap} {a_SHAPES C_Sites : Addr}
theorem ok_is_number {f : Addr} {fd : FuncData} (A : At K mg "is_number" s_is_number ["part", "below"] f fd) (T : TxtP K w mg a_SHAPES C_Sites) : Has P w K mg base "is_number" ["part", "below"] 1 spIsNum := by
  refine ⟨f, fd, A.F.ok sc_is_number (fun vs H Q EE h => ?_) (fun cdv A outer s H vs Q EE hr h => ?_), A.m, A.F.kp, A.b⟩
  · obtain ⟨_, _, rfl, _⟩ := h
    rfl
  obtain ⟨n, b, rfl, h0, h1, k⟩ := h
  refine ⟨_, (pss_one (ps_ret (pe_and (pe_callB (w_isi (K := K) rfl) (by rfl) T.z_isinstance (by decide +kernel) (pa_cons (pv 0) (pa_cons (pe_bltn (v := .ty "int") (by rfl) T.z_int (by decide +kernel) rfl) pa_nil))) (pe_and (pe_not (pe_callB (w_isi (K := K) rfl) (by rfl) T.z_isinstance (by decide +kernel) (pa_cons (pv 0) (pa_cons (pe_bltn (v := .ty "bool") (by rfl) T.z_bool (by decide +kernel) rfl) pa_nil)))) (pe_one (pe_chain op_le op_lt pe_int (pv 0) (pv 1))))))), ?_⟩
  refine at_st (σ' := [some (.int n), some (.int b)]) rfl ?_
  walk_at "go"
  refine ite_dT h0 ?_
  walk_at "go"
  rw [decide_eq_true h1]
  exact k
theorem ok_names_in {f : Addr} {fd : FuncData} (A : At K mg "names_in" s_names_in ["e", "at", "names"] f fd) (T : TxtP K w mg a_SHAPES C_Sites) : Has P w K mg base "names_in" ["e", "at", "names"] 1 spNamesIn := by
  refine ⟨f, fd, A.F.ok sc_names_in (fun vs H Q EE h => ?_) (fun cdv A outer s H vs Q EE hr h => ?_), A.m, A.F.kp, A.b⟩
  · obtain ⟨_, _, _, _, _, rfl, _⟩ := h
    rfl
  obtain ⟨e, v, i, l, B, rfl, hre, hl, hb, k⟩ := h
  refine ⟨_, (pss_cons (ps_if (PW.pt (pw_or (pt_cmpR op_eq (pe_ix (w_ixT (K := K) rfl) (pv 0) pe_int (fun _ _ => rfl)) pe_str (nomark _)) (pw_or1 (PW.pt (pw_and (pt_cmpR op_eq (pe_ix (w_ixT (K := K) rfl) (pv 0) pe_int (fun _ _ => rfl)) pe_str (nomark _)) (pw_and1 (pt_cmpR op_eq (pv 1) pe_int (nomark _))))))))
        (pss_one (ps_ret (pe_op op_cat (pv 2) (pe_lst (pa_cons (pe_ix (w_ixT (K := K) rfl) (pv 0) pe_int (fun _ _ => rfl)) pa_nil)))))
        pss_nil)
      (pss_one (ps_ret (pv 2)))), ?_⟩
  refine at_st (σ' := [some v, some (.int ((i : Int) + 1)), some (.ref l)]) rfl ?_
  have hlB : (B.map nV).length = B.length := List.length_map _
  cases e with
  | num n =>
    obtain ⟨p, rfl, hp⟩ := hre
    walk_at "gi"
    exact k l H Kp.refl hl
  | name n =>
    obtain ⟨p, rfl, hp⟩ := hre
    walk_at "gi"
    exact k l H Kp.refl hl
  | plus a b =>
    obtain ⟨p, x, y, rfl, hp, _⟩ := hre
    walk_at "gi"
    exact k l H Kp.refl hl
  | lt n a b =>
    obtain ⟨p, x, y, rfl, hp, _⟩ := hre
    walk_at "gi"
    by_cases h2 : i = 2
    · subst h2
      walk_at "gi"
      rename_i p1 H1 n1 k1 h1
      refine rd_cat (by walk_at "hp") h1 (by rw [List.length_map]; show B.length + 1 ≤ 1000000; omega) (rd_newO fun r H2 n2 k2 h2 => ?_)
      refine k r H2 (k1.trans k2) ?_
      rw [h2]
      simp [more, E.bnd]
    · refine ite_dF (fun z => h2 (by have := V.int.inj z; omega)) ?_
      walk_at "gi"
      have e2 : more B (E.bnd (.lt n a b) i) = B := by simp [more, E.bnd, h2]
      exact k l H Kp.refl (by rw [e2]; exact hl)
  | fn n b =>
    obtain ⟨p, y, rfl, hp, _⟩ := hre
    walk_at "gi"
    rename_i p1 H1 n1 k1 h1
    refine rd_cat (by walk_at "hp") h1 (by rw [List.length_map]; show B.length + 1 ≤ 1000000; omega) (rd_newO fun r H2 n2 k2 h2 => ?_)
    refine k r H2 (k1.trans k2) ?_
    rw [h2]
    simp [more, E.bnd]
  | call a b =>
    obtain ⟨p, x, y, rfl, hp, _⟩ := hre
    walk_at "gi"
    exact k l H Kp.refl hl
  | ite c a b =>
    obtain ⟨p, z, x, y, rfl, hp, _⟩ := hre
    walk_at "gi"
    exact k l H Kp.refl hl
theorem ok_is_expression_step {f : Addr} {fd : FuncData} (A : At K mg "is_expression" s_is_expression ["e", "names", "within"] f fd) (T : TxtP K w mg a_SHAPES C_Sites) {n : Nat}
    (c_is_number : Has P w K mg base "is_number" ["part", "below"] 1 spIsNum) (c_names_in : Has P w K mg base "names_in" ["e", "at", "names"] 1 spNamesIn)
    (c_is_expression : Has P w K mg base "is_expression" ["e", "names", "within"] (1 + n) (spIsExp n)) : Has P w K mg base "is_expression" ["e", "names", "within"] (1 + n + 1) (spIsExp (n + 1)) := by
  obtain ⟨f_is_number, fd_is_number, G_is_number, m_is_number, k_is_number, b_is_number⟩ := c_is_number
  obtain ⟨f_names_in, fd_names_in, G_names_in, m_names_in, k_names_in, b_names_in⟩ := c_names_in
  obtain ⟨f_is_expression, fd_is_expression, G_is_expression, m_is_expression, k_is_expression, b_is_expression⟩ := c_is_expression
  refine ⟨f, fd, A.F.ok sc_is_expression (fun vs H Q EE h => ?_) (fun cdv A outer s H vs Q EE hr h => ?_), A.m, A.F.kp, A.b⟩
  · obtain ⟨_, _, _, _, _, rfl, _⟩ := h
    rfl
  obtain ⟨e, v, l, B, wi, rfl, hre, hl, hb, hw, h7, hd, k⟩ := h
  refine ⟨_, (pss_cons (ps_if (PW.pt (pw_or (pt_not (pt_val (pe_callB (w_isi (K := K) rfl) (by rfl) T.z_isinstance (by decide +kernel) (pa_cons (pv 0) (pa_cons (pe_bltn (v := .ty "tuple") (by rfl) T.z_tuple (by decide +kernel) rfl) pa_nil))))) (pw_or (pt_cmpR (op_eqE hr.units0) (pv 0) (pe_tup pa_nil) (nomark _)) (pw_or1 (pt_cmpR op_gt (pv 2) (w_gint (n := 7) (by rfl) T.m_MOST_WITHIN) (nomark _))))))
        (pss_one (ps_ret pe_bl))
        pss_nil)
      (pss_cons (ps_set (i := 3) sc_is_expression.nd rfl (Or.inl rfl) (pe_kget2 (K := K) (w := w) rfl rfl (pe_glob (v := .ref a_SHAPES) (by rfl) T.m_SHAPES rfl) (pe_ix (w_ixT (K := K) rfl) (pv 0) pe_int (fun _ _ => rfl)) pe_str ⟨rfl, rfl, rfl, rfl⟩))
      (pss_cons (ps_if (PW.pt (pw_or (pt_cmpR op_eq (pv 3) pe_str (nomark _)) (pw_or1 (pt_cmpR op_ne (pe_callB (w_len (K := K) rfl) (by rfl) T.z_len PySem.boot_len (pa_cons (pv 0) pa_nil)) (pe_op op_add (pe_callB w_lenS (by rfl) T.z_len PySem.boot_len (pa_cons (pv 3) pa_nil)) pe_int) (nomark _)))))
        (pss_one (ps_ret pe_bl))
        pss_nil)
      (pss_cons (ps_if (pt_cmpR op_eq (pv 3) pe_str (nomark _))
        (pss_one (ps_ret (pe_call G_is_number (hr.mono (by first | decide | omega)) (by rfl) m_is_number k_is_number b_is_number .nil pass0 (pa_cons (pe_ix (w_ixT (K := K) rfl) (pv 0) pe_int (fun _ _ => rfl)) (pa_cons (w_gint (n := 1000) (by rfl) T.m_LIMIT) pa_nil)))))
        pss_nil)
      (pss_cons (ps_if (PW.pt (pw_and (pt_cmpR op_eq (pe_ix ix_str (pv 3) pe_int (fun _ _ => rfl)) pe_str (nomark _)) (pw_and1 (pt_not (pt_val (pe_call G_is_number (hr.mono (by first | decide | omega)) (by rfl) m_is_number k_is_number b_is_number .nil pass0 (pa_cons (pe_ix (w_ixT (K := K) rfl) (pv 0) pe_int (fun _ _ => rfl)) (pa_cons (w_gint (n := 10) (by rfl) T.m_NAMES) pa_nil))))))))
        (pss_one (ps_ret pe_bl))
        pss_nil)
      (pss_cons (ps_if (pt_cmpR op_eq (pv 3) pe_str (nomark _))
        (pss_one (ps_ret (pe_cmpR (w_in (K := K) rfl) (pe_ix (w_ixT (K := K) rfl) (pv 0) pe_int (fun _ _ => rfl)) (pv 1) rfl)))
        pss_nil)
      (pss_cons (ps_for PassesOwn.never rfl (pi_range1 (by rfl) T.z_range (pa_cons (pe_callB w_lenS (by rfl) T.z_len PySem.boot_len (pa_cons (pv 3) pa_nil)) pa_nil)) (pg_name (i := 4) sc_is_expression.nd rfl (Or.inl rfl))
        (pss_one (ps_if (PW.pt (pw_and (pt_cmpR op_eq (pe_ix ix_str (pv 3) (pv 4) (fun _ _ => rfl)) pe_str (nomark _)) (pw_and1 (pt_not (pt_val (pe_call G_is_expression (hr.mono (by first | decide | omega)) (by rfl) m_is_expression k_is_expression b_is_expression .nil pass0 (pa_cons (pe_ix (w_ixT (K := K) rfl) (pv 0) (pe_op op_add (pv 4) pe_int) (fun _ _ => rfl)) (pa_cons (pe_call G_names_in (hr.mono (by first | decide | omega)) (by rfl) m_names_in k_names_in b_names_in .nil pass0 (pa_cons (pv 0) (pa_cons (pe_op op_add (pv 4) pe_int) (pa_cons (pv 1) pa_nil)))) (pa_cons (pe_op op_add (pv 2) pe_int) pa_nil)))))))))
          (pss_one (ps_ret pe_bl))
          pss_nil)))
      (pss_one (ps_ret pe_bl))))))))), ?_⟩
  refine at_st (σ' := [some v, some (.ref l), some (.int (wi : Int)), none, none]) rfl ?_
  obtain ⟨p, zs, rfl, hp, hlen, hkids, hz⟩ := hre.shaped hw
  have h7' : ¬ (7 : Int) < (wi : Int) := by omega
  walk_at "gi"
  refine ite_dF h7' ?_
  walk_at "gi"
  rename_i q1 H1 n1 k1 h1
  refine ite_dF (shape_ne e) ?_
  walk_at "gi"
  have hl2 : ((V.str e.word :: zs.map (fun z : V × Option E => z.1)).length : Int) = (e.shape.length : Int) + 1 := by
    rw [List.length_cons, List.length_map, hlen]
    omega
  have hsz : Nat.ble e.shape.length 1000000 = true := by cases e <;> rfl
  refine rd_lenS hsz ?_
  walk_at "gi"
  refine ite_nF (congrArg V.int hl2) ?_
  walk_at "st"
  walk_at "st"
  refine rd_ifJ (fun H' => H1 = H' ∧ ∀ m, e ≠ .num m) ?_ fun Z hZ => ?_
  · rintro _ ⟨rfl, hne⟩
    walk_at "st"
    walk_at "st"
    refine rd_ifJ (fun H' => H1 = H') ?_ fun Z hZ => ?_
    · rintro _ rfl
      walk_at "st"
      walk_at "st"
      refine rd_ifJ (fun H' => H1 = H' ∧ ∀ m, e ≠ .name m) ?_ fun Z hZ => ?_
      · rintro _ ⟨rfl, hne2⟩
        walk_at "go"
        refine rd_lenS hsz ?_
        walk_at "st"
        refine rd_irx (m := zs.length) (by rw [hlen]) (by rw [hlen]; have := shape_len e; omega) ?_
        refine for_range (fun _ σ' H' => (∃ o, σ' = [some (.ref p), some (.ref l), some (.int (wi : Int)), some (.str e.shape), o]) ∧ Kp [] H1 H') ⟨⟨none, rfl⟩, Kp.refl⟩ ?_ ?_
        · rintro i _ H2 hi ⟨⟨o, rfl⟩, k2⟩
          obtain ⟨x, oo, c, ez, ec, hc⟩ := hz i hi
          rw [Int.zero_add]
          walk_at "st"
          refine rd_if ?_
          walk_at "go"
          refine rd_ixS hsz ec ?_
          walk_at "go"
          rcases hc with ⟨hc, _⟩ | ⟨rfl, kk, rfl, hkk, rk, wk⟩
          · refine ite_dF (fun z => hc (sign_e z)) ?_
            walk_at "go"
            exact ⟨⟨_, rfl⟩, k2⟩
          · refine ite_dT rfl ?_
            walk_at "go"
            have ex : atI (V.str e.word :: zs.map (fun z : V × Option E => z.1)) ((i : Int) + 1) = some x := by
              have : ((i : Int) + 1) = ((i + 1 : Nat) : Int) := by omega
              rw [this]
              exact atI_nat (by rw [List.getElem?_cons_succ, List.getElem?_map, ez] <;> rfl)
            walk_at "go"
            have hre2 : RE H2 e (.ref p) := by walk_at "hp"
            refine rd_namesIn (B := B) hre2 (by walk_at "hp") (by omega) fun r H3 k3 h3 => ?_
            walk_at "go"
            have hdk := E.kids_depth hkk
            have hb3 : (more B (e.bnd i)).length ≤ B.length + 1 := by
              cases e.bnd i <;> simp [more]
            have ew : (wi : Int) + 1 = ((wi + 1 : Nat) : Int) := by omega
            rw [ew]
            refine rd_isExp (B := more B (e.bnd i)) (by walk_at "hp") h3 (by omega) wk (by omega) (by omega) fun H4 k4 => ?_
            walk_at "go"
            exact ⟨⟨_, rfl⟩, by walk_at "kp"⟩
        · rintro _ H2 ⟨⟨o, rfl⟩, k2⟩
          walk_at "go"
          exact k H2 (k1.trans k2)
      · walk_at "go"
        cases e with
        | name m =>
          obtain ⟨p', ep, hp'⟩ := hre
          cases ep
          refine ite_dT rfl ?_
          walk_at "go"
          refine rd_in (K := K) (x := nV m) (by walk_at "hp") rfl (flat_nV B) ?_
          rw [inV_nV, decide_eq_true hw.2]
          exact k H1 k1
        | num m => exact absurd rfl (hne m)
        | plus a b => exact ite_dF (shape_name (fun _ z => nomatch z)) (hZ _ ⟨rfl, fun _ z => nomatch z⟩)
        | lt m a b => exact ite_dF (shape_name (fun _ z => nomatch z)) (hZ _ ⟨rfl, fun _ z => nomatch z⟩)
        | fn m b => exact ite_dF (shape_name (fun _ z => nomatch z)) (hZ _ ⟨rfl, fun _ z => nomatch z⟩)
        | call a b => exact ite_dF (shape_name (fun _ z => nomatch z)) (hZ _ ⟨rfl, fun _ z => nomatch z⟩)
        | ite c a b => exact ite_dF (shape_name (fun _ z => nomatch z)) (hZ _ ⟨rfl, fun _ z => nomatch z⟩)
    · cases e with
      | num m => exact absurd rfl (hne m)
      | name m =>
        obtain ⟨p', ep, hp'⟩ := hre
        cases ep
        walk_at "go"
        have := hw.1
        refine rd_isNum (by omega) (by omega) ?_
        walk_at "go"
        exact hZ _ rfl
      | plus a b =>
        walk_at "go"
        exact hZ _ rfl
      | lt m a b =>
        obtain ⟨p', x, y, ep, hp', _⟩ := hre
        cases ep
        walk_at "go"
        have := hw.1
        refine rd_isNum (by omega) (by omega) ?_
        walk_at "go"
        exact hZ _ rfl
      | fn m b =>
        obtain ⟨p', y, ep, hp', _⟩ := hre
        cases ep
        walk_at "go"
        have := hw.1
        refine rd_isNum (by omega) (by omega) ?_
        walk_at "go"
        exact hZ _ rfl
      | call a b =>
        walk_at "go"
        exact hZ _ rfl
      | ite c a b =>
        walk_at "go"
        exact hZ _ rfl
  · walk_at "go"
    cases e with
    | num m =>
      obtain ⟨p', ep, hp'⟩ := hre
      cases ep
      have hm : m < 1000 := hw
      refine ite_dT rfl ?_
      walk_at "go"
      refine rd_isNum (by omega) (by omega) ?_
      exact k H1 k1
    | name m => exact ite_dF (shape_num (fun _ z => nomatch z)) (hZ _ ⟨rfl, fun _ z => nomatch z⟩)
    | plus a b => exact ite_dF (shape_num (fun _ z => nomatch z)) (hZ _ ⟨rfl, fun _ z => nomatch z⟩)
    | lt m a b => exact ite_dF (shape_num (fun _ z => nomatch z)) (hZ _ ⟨rfl, fun _ z => nomatch z⟩)
    | fn m b => exact ite_dF (shape_num (fun _ z => nomatch z)) (hZ _ ⟨rfl, fun _ z => nomatch z⟩)
    | call a b => exact ite_dF (shape_num (fun _ z => nomatch z)) (hZ _ ⟨rfl, fun _ z => nomatch z⟩)
    | ite c a b => exact ite_dF (shape_num (fun _ z => nomatch z)) (hZ _ ⟨rfl, fun _ z => nomatch z⟩)
theorem none_left {f : Addr} {fd : FuncData} {ps : List Str} {k : Nat} {sp : Sp} (no : ∀ vs H Q E, ¬ sp vs H Q E) : FnOk P w K mg base CX0 k f fd ps sp :=
  ⟨fun vs H Q E h => absurd h (no vs H Q E), fun A outer s H args us vs Q E _ _ _ _ h => absurd h (no vs H Q E)⟩
theorem ok_is_expression {f : Addr} {fd : FuncData} (A : At K mg "is_expression" s_is_expression ["e", "names", "within"] f fd) (T : TxtP K w mg a_SHAPES C_Sites)
    (c_is_number : Has P w K mg base "is_number" ["part", "below"] 1 spIsNum) (c_names_in : Has P w K mg base "names_in" ["e", "at", "names"] 1 spNamesIn) : ∀ n, Has P w K mg base "is_expression" ["e", "names", "within"] (1 + n) (spIsExp n)
  | 0 => ⟨f, fd, none_left fun vs H Q E ⟨_, _, _, _, _, _, _, _, _, _, _, h1, _⟩ => by omega, A.m, A.F.kp, A.b⟩
  | n + 1 => ok_is_expression_step A T c_is_number c_names_in (ok_is_expression A T c_is_number c_names_in n)
end
end EW

end
section
open PySem L2 EW
local macro_rules | `(tactic| walk_at "ne") => `(tactic| first
  | assumption
  | exact Ne.symm (by assumption)
  | ((with_reducible refine' EW.RowAt.newne ?n ?h); (case n => assumption); (case h => walk_at "hp"))
  | ((with_reducible refine' Ne.symm (EW.RowAt.newne ?n ?h)); (case n => assumption); (case h => walk_at "hp"))
  | ((with_reducible refine' EW.BoxAt.newne ?n ?h); (case n => assumption); (case h => walk_at "hp"))
  | ((with_reducible refine' Ne.symm (EW.BoxAt.newne ?n ?h)); (case n => assumption); (case h => walk_at "hp")))
local macro_rules | `(tactic| walk_at "ns") => `(tactic| first
  | assumption
  | exact EW.RowAt.ne (by assumption)
  | ((with_reducible refine' EW.RowAt.notin ?n ?h); (case n => assumption); (case h => walk_at "hp")))
local macro_rules | `(tactic| walk_at "ni") => `(tactic| first
  | with_reducible exact EW.ne_mem0
  | with_reducible exact EW.dis0
  | ((with_reducible refine' EW.ne_mem1 ?h); (case h => walk_at "ne"))
  | ((with_reducible refine' EW.ne_mem2 ?h ?g); (case h => walk_at "ne"); (case g => walk_at "ne"))
  | ((with_reducible refine' EW.dis1 ?h); (case h => walk_at "ns"))
  | ((with_reducible refine' EW.dis2 ?h ?g); (case h => walk_at "ns"); (case g => walk_at "ns")))
local macro_rules | `(tactic| walk_at "hp") => `(tactic| first
  | assumption
  | ((with_reducible refine' EW.RE.mono (EW.Kp.tup ?k) ?h); (case k => assumption); (case h => walk_at "hp"))
  | ((with_reducible refine' EW.Kp.tup ?k _ _ ?h); (case k => assumption); (case h => walk_at "hp"))
  | ((with_reducible refine' EW.kp_tup ?k ?h); (case k => assumption); (case h => walk_at "hp"))
  | ((with_reducible refine' EW.Kp.keep ?k _ _ ?h ?n); (case k => assumption); (case h => walk_at "hp"); (case n => walk_at "ni"))
  | ((with_reducible refine' EW.Kp.seqL ?k ?h ?n); (case k => assumption); (case h => walk_at "hp"); (case n => walk_at "ni"))
  | ((with_reducible refine' EW.RowAt.keep ?k ?h ?n1 ?n2); (case k => assumption); (case h => walk_at "hp"); (case n1 => walk_at "ni"); (case n2 => walk_at "ni"))
  | ((with_reducible refine' EW.ScAt.keep ?k ?h ?n); (case k => assumption); (case h => walk_at "hp"); (case n => walk_at "ni"))
  | ((with_reducible refine' EW.BoxAt.keep ?k ?h ?n); (case k => assumption); (case h => walk_at "hp"); (case n => walk_at "ni"))
  | ((with_reducible refine' L2.SqL.of ?h); (case h => walk_at "hp"))
  | ((with_reducible refine' L2.SqT.of ?h); (case h => walk_at "hp")))
local macro_rules | `(tactic| walk_at "sb") => `(tactic| first
  | exact EW.sub0
  | exact EW.sub_refl
  | exact EW.sub_l
  | exact EW.sub_r)
local macro_rules | `(tactic| walk_at "kp") => `(tactic| first
  | exact EW.Kp.refl
  | assumption
  | ((with_reducible refine' EW.Kp.trans ?h (EW.Kp.mono ?k ?s)); (case k => assumption); (case s => walk_at "sb"); (case h => walk_at "kp")))
local macro_rules | `(tactic| walk_at "st") => `(tactic| first
  | with_reducible refine rd_seq ?_
  | with_reducible refine rd_next ?_
  | with_reducible refine rd_asg ?_
  | with_reducible refine rd_name ?_
  | with_reducible refine rd_ret ?_
  | with_reducible refine rd_drop ?_
  | ((with_reducible refine' rd_var ?e ?_); (case e => first | with_reducible assumption | exact rfl | assumption))
  | with_reducible refine rd_c ?_
  | with_reducible refine rd_op ?_
  | with_reducible refine rd_I0 ?_
  | with_reducible refine rd_test ?_
  | with_reducible refine rd_tB ?_
  | with_reducible refine rd_not ?_
  | with_reducible refine rd_and ?_
  | with_reducible refine rd_or ?_
  | with_reducible refine rd_ifE ?_
  | with_reducible refine rd_notV ?_
  | with_reducible refine rd_andV ?_
  | with_reducible refine rd_orV ?_
  | with_reducible refine rd_cons ?_
  | with_reducible refine EW.rd_par ?_
  | with_reducible refine EW.rd_par2 ?_
  | with_reducible refine EW.rd_parT ?_
  | with_reducible refine EW.rd_par3 ?_
  | with_reducible refine rd_nil ?_
  | with_reducible refine rd_cb ?_
  | with_reducible refine rd_call ?_
  | with_reducible refine rd_meth ?_
  | with_reducible refine rd_sub ?_
  | with_reducible refine rd_fl ?_
  | with_reducible refine rd_tup ?_
  | with_reducible refine rd_lst ?_
  | with_reducible refine rd_sl ?_
  | with_reducible refine rd_part ?_
  | with_reducible refine rd_partI ?_
  | with_reducible refine rd_nopart ?_
  | with_reducible refine rd_yes ?_
  | with_reducible refine rd_dnewK ?_
  | with_reducible refine rd_dnewT ?_
  | ((with_reducible refine' rd_isT ?h ?_); (case h => walk_at "hp"))
  | with_reducible refine rd_isI ?_
  | with_reducible refine rd_isII ?_
  | with_reducible refine rd_isIB ?_
  | ((with_reducible refine' rd_sum ?h ?_); (case h => walk_at "hp"))
  | ((with_reducible refine' rd_tail ?h ?_); (case h => walk_at "hp"))
  | ((with_reducible refine rd_newO ?_); intro _ _ _ _ _)
  | ((with_reducible refine' rd_lenS ?l ?_); (case l => exact rfl))
  | ((with_reducible refine' rd_ixS ?l ?e ?_); (case l => exact rfl); (case e => first | assumption | with_reducible exact EW.at_head | exact rfl))
  | with_reducible refine EW.ite_dT (by decide +kernel) ?_
  | with_reducible refine EW.ite_dF (by decide +kernel) ?_
  | with_reducible refine EW.ite_nT (by decide +kernel) ?_
  | with_reducible refine EW.ite_nF (by decide +kernel) ?_
  | with_reducible refine EW.iteNF ?_
  | with_reducible refine EW.iteNT ?_
  | with_reducible refine EW.iteEC ?_
  | with_reducible refine EW.iteEN ?_
  | with_reducible refine EW.iteNC ?_
  | with_reducible refine EW.iteNN ?_
  | with_reducible refine EW.rd_kget (by assumption) ?_
  | with_reducible refine EW.rd_kgx (by assumption) _ ?_
  | with_reducible refine EW.rd_ixD (by assumption) _ ?_
  | with_reducible refine EW.rd_chain ?_
  | with_reducible refine L2.iteT ?_
  | with_reducible refine L2.iteF ?_
  | with_reducible refine rd_bm ?_
  | with_reducible refine rd_bm0 ?_
  | with_reducible refine rd_sfld ?_
  | with_reducible refine rd_make ?_
  | ((with_reducible refine' rd_bmL ?s ?_); (case s => walk_at "hp"))
  | ((with_reducible refine' rd_bm0L ?s ?_); (case s => walk_at "hp"))
  | ((with_reducible refine' rd_mex ?s ?l ?_); (case s => walk_at "hp"); (case l => assumption))
  | with_reducible refine rd_lc ?_
  | with_reducible refine rd_for ?_
  | with_reducible refine rd_il ?_
  | with_reducible refine rd_it ?_
  | with_reducible refine rd_ir ?_
  | with_reducible refine rd_dput ?_
  | with_reducible refine rd_dget ?_
  | ((with_reducible refine' rd_ilx ?s ?_); (case s => walk_at "hp"))
  | ((with_reducible refine' rd_itx ?s ?_); (case s => walk_at "hp"))
  | ((with_reducible refine' rd_getK ?s ?e ?_); (case s => walk_at "hp"); (case e => assumption))
  | ((with_reducible refine rd_newT rfl ?_); intro _ _ _ _ _)
  | ((with_reducible refine rd_newL rfl ?_); intro _ _ _ _ _)
  | ((with_reducible refine' rd_taken ?a ?b ?c ?_); (case a => walk_at "hp"); (case b => first | omega | decide); (case c => first | omega | decide); intro _ _ _ _ _)
  | ((with_reducible refine' rd_neE ?a ?b ?_); (case a => walk_at "hp"); (case b => walk_at "hp"))
  | ((with_reducible refine' rd_eqE ?a ?b ?_); (case a => walk_at "hp"); (case b => walk_at "hp"))
  | with_reducible refine rd_eq rfl ?_
  | with_reducible refine rd_ne rfl ?_
  | with_reducible refine rd_bl ?_
  | ((with_reducible refine rd_I ?c ?_); (case c => first | assumption | omega | decide | (exact Or.inl ⟨by omega, by omega⟩) | (exact ⟨by omega, by omega⟩) | (exact ⟨by decide, by decide, by decide⟩)))
  | refine Or.inl ⟨_, rfl, ?_⟩
  | refine Or.inr ⟨_, rfl, ?_⟩
  | ((with_reducible refine' rd_lenL ?s ?_); (case s => walk_at "hp"))
  | ((with_reducible refine' rd_lenT ?s ?_); (case s => walk_at "hp"))
  | ((with_reducible refine' rd_ixL ?s ?e ?_); (case s => walk_at "hp"); (case e => first | assumption | with_reducible exact EW.at_head | exact rfl))
  | ((with_reducible refine' rd_ixT ?s ?e ?_); (case s => walk_at "hp"); (case e => first | assumption | with_reducible exact EW.at_head | exact rfl))
  | ((with_reducible refine' rd_flx ?s ?c ?n ?l ?_); (case s => walk_at "hp"); (case c => assumption); (case n => assumption); (case l => assumption)))
local macro_rules | `(tactic| walk_at "go") => `(tactic| repeat (walk_at "st"))
local macro_rules | `(tactic| walk_at "gi") => `(tactic| repeat (first | with_reducible refine rd_if ?_ | walk_at "st"))
namespace EW
open PySem L2
def REs (H : Hp) : List E → List V → Prop
  | [], [] => True
  | e :: es, v :: vs => RE H e v ∧ REs H es vs
  | _, _ => False
theorem REs.mono {H H' : Hp} (t : Tups H H') : ∀ {es : List E} {vs : List V}, REs H es vs → REs H' es vs
  | [], [], _ => trivial
  | _ :: _, _ :: _, ⟨h, r⟩ => ⟨h.mono t, REs.mono t r⟩
theorem REs.snoc {H : Hp} {e : E} {v : V} : ∀ {es : List E} {vs : List V}, REs H es vs → RE H e v → REs H (es ++ [e]) (vs ++ [v])
  | [], [], _, h => ⟨h, trivial⟩
  | _ :: _, _ :: _, ⟨h, r⟩, q => ⟨h, REs.snoc r q⟩
theorem REs.length {H : Hp} : ∀ {es : List E} {vs : List V}, REs H es vs → es.length = vs.length
  | [], [], _ => rfl
  | _ :: _, _ :: _, ⟨_, r⟩ => by rw [List.length_cons, List.length_cons, REs.length r]
theorem REs.split {H : Hp} : ∀ {es : List E} {l : List V} {x : V} {r : List V}, REs H es (l ++ x :: r) → ∃ el e er, es = el ++ e :: er ∧ el.length = l.length ∧ RE H e x
  | [], [], _, _, h => h.elim
  | [], _ :: _, _, _, h => h.elim
  | e :: es, [], x, r, ⟨h, _⟩ => ⟨[], e, es, rfl, rfl, h⟩
  | e :: es, y :: l, x, r, ⟨_, q⟩ => by
    obtain ⟨el, e1, er, h1, h2, h3⟩ := REs.split (l := l) q
    exact ⟨e :: el, e1, er, by rw [h1]; rfl, by simp [h2], h3⟩
theorem take_sn {α : Type} : ∀ (el : List α) (e : α) (er : List α), (el ++ e :: er).take (el.length + 1) = el ++ [e]
  | [], _, _ => rfl
  | x :: el, e, er => by
    rw [List.cons_append, List.length_cons, List.take_succ_cons, take_sn el e er]
    rfl
theorem rgL_split {n : Nat} {l r : List V} {x : V} (h : rgL n = l ++ x :: r) : x = V.int ((l.length : Nat) : Int) ∧ l.length < n := by
  have h1 := congrArg List.length h
  rw [rgL_len, List.length_append, List.length_cons] at h1
  have hl : l.length < n := by omega
  have h2 := rgL_at hl
  rw [h, List.getElem?_append_right (Nat.le_refl _), Nat.sub_self, Int.zero_add] at h2
  exact ⟨Option.some.inj h2, hl⟩
section
variable {K : PySem.W.Frag} {a : Addr} {g : TG} {tt : TT} {te : TE} {vs : List Nat} {σ : L2.St} {H1 : Hp} {D : Addr} {Qd : Hp → Prop}
/-- a comprehension over a list of trees: each by a number of it -/
theorem lc_REs {es : List E} {ws : List V} (f : E → V) (hD : H1 D = none) (hS : SqL K H1 a ws) (hre : REs H1 es ws) (hl : ws.length < 1000000)
    (hs : ∀ e ∈ es, ∀ v H, RE H e v → Kp [] H1 H → ∀ (Qy : VK) (Qn : Hp → Prop), (∀ H4, Kp [] H H4 → Qy (f e) H4) →
      g v (wipe σ vs) H fun σ2 H2 => wipe σ2 vs = wipe σ vs ∧ tt σ2 H2 fun b H3 => if b = true then te σ2 H3 Qy else Qn H3)
    (hd : ∀ H, Kp [] H1 H → H D = some (.lst (es.map f)) → Qd H) :
    ∃ W : Nat → Nat → Hp → Prop, (∃ m, W 0 m (upd H1 D (.lst []))) ∧ ∀ i m H, W i m H → ((Itl K a).stop i H ∧ Qd H) ∨ ((Itl K a).go i H ∧ ∃ Nx : Hp → Prop, (∀ H', Nx H' → ∃ m', m' < m ∧ W (i + 1) m' H') ∧
      ∀ x H', (Itl K a).yld i H x H' → g x (wipe σ vs) H' fun σ2 H2 => wipe σ2 vs = wipe σ vs ∧ tt σ2 H2 fun b H3 => if b = true then te σ2 H3 fun y H4 => ∃ acc, H4 D = some (.lst acc) ∧ acc.length < sizeLine ∧ Nx (upd H4 D (.lst (acc ++ [y]))) else Nx H3) := by
  refine lc_J (M := []) (fun l acc _ => acc = (es.take l.length).map f) (fun _ _ _ _ _ h => h) hD (fun _ h => nomatch h) hS (fun h => nomatch h) hl (by simp) ?_ ?_
  · intro l x r acc H e hacc k _ _ Qy Qn qy qn
    rw [e] at hre
    obtain ⟨el, e1, er, h1, h2, h3⟩ := hre.split
    refine hs e1 (by rw [h1]; simp) x H (h3.mono k.tup) k Qy Qn fun H4 k4 => ?_
    refine qy _ _ k4 ?_
    have e4 : (el ++ e1 :: er).take el.length = el := by simp
    rw [hacc, h1, List.length_append, ← h2, e4]
    show el.map f ++ [f e1] = ((el ++ e1 :: er).take (el.length + 1)).map f
    rw [take_sn, List.map_append]
    rfl
  · intro acc H hacc k hD' _
    rw [← hre.length, List.take_length] at hacc
    rw [hacc] at hD'
    exact hd H k hD'
end
def spPartsOf : Sp := fun vs H Q _ => ∃ (e : E) (v : V) (B : List Nat), vs = [v] ∧ RE H e v ∧ e.Wf B ∧ ∀ (r : Addr) (ws : List V) H', Kp [] H H' → H' r = some (.lst ws) → REs H' e.kids ws → Q (.ref r) H'
def spCount (n : Nat) : Sp := fun vs H Q _ => ∃ (e : E) (v : V) (B : List Nat), vs = [v] ∧ RE H e v ∧ e.Wf B ∧ e.depth < n ∧ ∀ H', Kp [] H H' → Q (.int (e.size : Int)) H'
def spNeed : Sp := fun vs H Q _ => ∃ (e : E) (v : V), vs = [v] ∧ RE H e v ∧ e.Wf [] ∧ e.depth ≤ 7 ∧ e.size ≤ 60 ∧ ∀ H', Kp [] H H' → Q .non H'
theorem rd_partsOf {H : Hp} {e : E} {v : V} {B : List Nat} {Q : VK} {EE : XK} (h : RE H e v) (w : e.Wf B) (k : ∀ (r : Addr) (ws : List V) H', Kp [] H H' → H' r = some (.lst ws) → REs H' e.kids ws → Q (.ref r) H') : spPartsOf ([v] ++ []) H Q EE := ⟨e, v, B, rfl, h, w, k⟩
theorem rd_count {n : Nat} {H : Hp} {e : E} {v : V} {B : List Nat} {Q : VK} {EE : XK} (h : RE H e v) (w : e.Wf B) (d : e.depth < n) (k : ∀ H', Kp [] H H' → Q (.int (e.size : Int)) H') : spCount n ([v] ++ []) H Q EE := ⟨e, v, B, rfl, h, w, d, k⟩
theorem rd_need {H : Hp} {e : E} {v : V} {Q : VK} {EE : XK} (h : RE H e v) (w : e.Wf []) (d : e.depth ≤ 7) (z : e.size ≤ 60) (k : ∀ H', Kp [] H H' → Q .non H') : spNeed ([v] ++ []) H Q EE := ⟨e, v, rfl, h, w, d, z, k⟩
theorem E.kids_wf {e k : E} {B : List Nat} (w : e.Wf B) (h : k ∈ e.kids) : ∃ B', k.Wf B' := by
  cases e <;> simp only [E.kids, List.mem_cons, List.not_mem_nil, or_false] at h
  · rcases h with rfl | rfl
    · exact ⟨_, w.1⟩
    · exact ⟨_, w.2⟩
  · rcases h with rfl | rfl
    · exact ⟨_, w.2.1⟩
    · exact ⟨_, w.2.2⟩
  · rw [h]; exact ⟨_, w.2⟩
  · rcases h with rfl | rfl
    · exact ⟨_, w.1⟩
    · exact ⟨_, w.2⟩
  · rcases h with rfl | rfl | rfl
    · exact ⟨_, w.1⟩
    · exact ⟨_, w.2.1⟩
    · exact ⟨_, w.2.2⟩
theorem sum_sizes (l : List E) : (l.map fun e => (e.size : Int)).sum = ((l.map E.size).sum : Nat) := by
  induction l with
  | nil => rfl
  | cons x r ih => simp only [List.map_cons, List.sum_cons, ih]; omega
section
variable {P : Program} {w : World} {K : PySem.W.Frag} {mg : Str → Option Value} {base : Heap} {a_SHAPES C_Sites : Addr}
theorem ok_parts_of {f : Addr} {fd : FuncData} (A : At K mg "parts_of" s_parts_of ["e"] f fd) (T : TxtP K w mg a_SHAPES C_Sites) : Has P w K mg base "parts_of" ["e"] 1 spPartsOf := by
  refine ⟨f, fd, A.F.ok sc_parts_of (fun vs H Q EE h => ?_) (fun cdv A outer s H vs Q EE hr h => ?_), A.m, A.F.kp, A.b⟩
  · obtain ⟨_, _, _, rfl, _⟩ := h
    rfl
  obtain ⟨e, v, B, rfl, hre, hw, k⟩ := h
  obtain ⟨p, zs, rfl, hp, hlen, hkids, hz⟩ := hre.shaped hw
  have hsz : Nat.ble e.shape.length 1000000 = true := by cases e <;> rfl
  refine ⟨_, (pss_one (ps_ret (pe_lc (own := [("at", 1)]) (g := (gName 1)) (tt := _) rfl sc_parts_of.nd (pi_range1 (by rfl) T.z_range (pa_cons (pe_op op_sub (pe_callB (w_len (K := K) rfl) (by rfl) T.z_len PySem.boot_len (pa_cons (pv 0) pa_nil)) pe_int) pa_nil)) (blkOk_by (own := [("at", 1)]) (N := N_parts_of) (sc := defScope s_parts_of) (by decide +kernel)) (fun _ _ _ _ _ => (pg_name (i := 1) sc_parts_of.nd rfl (Or.inl rfl))) (fun _ _ _ _ _ => pts_one (pt_cmpR op_eq (pe_ix ix_str (pe_ix (w_ixK (K := K) (w := w) rfl rfl) (pe_glob (v := .ref a_SHAPES) (by rfl) T.m_SHAPES rfl) (pe_ix (w_ixT (K := K) rfl) (pv 0) pe_int (fun _ _ => rfl)) (fun _ _ => rfl)) (pv 1) (fun _ _ => rfl)) pe_str (nomark _))) (fun _ _ _ _ _ => (pe_ix (w_ixT (K := K) rfl) (pv 0) (pe_op op_add (pv 1) pe_int) (fun _ _ => rfl)))))), ?_⟩
  refine at_st (σ' := [some (.ref p), none]) rfl ?_
  walk_at "go"
  refine rd_irx (m := zs.length) (by rw [List.length_cons, List.length_map]; omega) (by have := shape_len e; omega) ?_
  intro D hD
  refine lc_JR (M := []) (fun l acc H => REs H ((zs.take l.length).filterMap fun z : V × Option E => z.2) acc) (fun _ _ _ _ t h => h.mono t.tup) hD (fun _ h => nomatch h) (by have := shape_len e; omega) trivial ?_ ?_
  · intro l x r acc H2 hx hacc k2 _ _ Qy Qn qy qn
    obtain ⟨rfl, hi⟩ := rgL_split hx
    obtain ⟨x, oo, c, ez, ec, hc⟩ := hz l.length hi
    have etk : zs.take (l ++ [V.int ((l.length : Nat) : Int)]).length = zs.take l.length ++ [(x, oo)] := by
      rw [List.length_append]
      show zs.take (l.length + 1) = _
      rw [List.take_add_one, ez]
      rfl
    walk_at "go"
    refine ⟨rfl, ?_⟩
    walk_at "go"
    refine rd_ixS hsz ec ?_
    walk_at "go"
    rcases hc with ⟨hc, rfl⟩ | ⟨rfl, kk, rfl, hkk, rk, wk⟩
    · refine ite_dF (fun z => hc (sign_e z)) ?_
      refine qn _ Kp.refl ?_
      rw [etk, List.filterMap_append]
      simpa using hacc
    · refine ite_dT rfl ?_
      have ex : atI (V.str e.word :: zs.map (fun z : V × Option E => z.1)) ((l.length : Int) + 1) = some x := by
        have : ((l.length : Int) + 1) = ((l.length + 1 : Nat) : Int) := by omega
        rw [this]
        exact atI_nat (by rw [List.getElem?_cons_succ, List.getElem?_map, ez] <;> rfl)
      walk_at "go"
      refine qy _ _ Kp.refl ?_
      rw [etk, List.filterMap_append]
      exact REs.snoc hacc (rk.mono k2.tup)
  · intro acc H2 hacc k2 hD2 _
    rw [rgL_len, List.take_length, hkids] at hacc
    exact k D acc H2 k2 hD2 hacc
theorem ok_count_step {f : Addr} {fd : FuncData} (A : At K mg "count" s_count ["e"] f fd) (T : TxtP K w mg a_SHAPES C_Sites) {n : Nat} (c_parts_of : Has P w K mg base "parts_of" ["e"] 1 spPartsOf)
    (c_count : Has P w K mg base "count" ["e"] (1 + n) (spCount n)) : Has P w K mg base "count" ["e"] (1 + n + 1) (spCount (n + 1)) := by
  obtain ⟨f_parts_of, fd_parts_of, G_parts_of, m_parts_of, k_parts_of, b_parts_of⟩ := c_parts_of
  obtain ⟨f_count, fd_count, G_count, m_count, k_count, b_count⟩ := c_count
  refine ⟨f, fd, A.F.ok sc_count (fun vs H Q EE h => ?_) (fun cdv A outer s H vs Q EE hr h => ?_), A.m, A.F.kp, A.b⟩
  · obtain ⟨_, _, _, rfl, _⟩ := h
    rfl
  obtain ⟨e, v, B, rfl, hre, hw, hd, k⟩ := h
  refine ⟨_, (pss_one (ps_ret (pe_op op_add pe_int (pe_callB (w_sum (K := K) rfl rfl) (by rfl) T.z_sum (by decide +kernel) (pa_cons (pe_lc (own := [("part", 1)]) (g := (gName 1)) (tt := tYes) rfl sc_count.nd (w_piL (K := K) rfl (pe_call G_parts_of (hr.mono (by first | decide | omega)) (by rfl) m_parts_of k_parts_of b_parts_of .nil pass0 (pa_cons (pv 0) pa_nil))) (blkOk_by (own := [("part", 1)]) (N := N_count) (sc := defScope s_count) (by decide +kernel)) (fun _ _ _ _ _ => (pg_name (i := 1) sc_count.nd rfl (Or.inl rfl))) (fun _ _ _ _ _ => pts_nil) (fun _ _ _ _ _ => (pe_call G_count (hr.mono (by first | decide | omega)) (by rfl) m_count k_count b_count .nil pass0 (pa_cons (pv 1) pa_nil)))) pa_nil))))), ?_⟩
  refine at_st (σ' := [some v, none]) rfl ?_
  walk_at "go"
  refine rd_partsOf hre hw fun r ws H1 k1 h1 hre1 => ?_
  walk_at "go"
  intro D hD
  refine lc_REs (fun e => .int (e.size : Int)) hD (SqL.of h1) hre1 (by rw [← hre1.length]; cases e <;> simp [E.kids]) (fun e' he' v' H2 hre2 k2 Qy Qn qy => ?_) fun H2 k2 h2 => ?_
  · walk_at "go"
    refine ⟨rfl, ?_⟩
    walk_at "go"
    obtain ⟨B', hw'⟩ := E.kids_wf hw he'
    have := E.kids_depth he'
    exact rd_count hre2 hw' (by omega) fun H3 k3 => qy H3 k3
  · have e2 : e.kids.map (fun e => V.int (e.size : Int)) = (e.kids.map fun e => (e.size : Int)).map V.int := by rw [List.map_map] <;> rfl
    rw [e2] at h2
    walk_at "go"
    have e3 : (1 : Int) + (e.kids.map fun e => (e.size : Int)).sum = (e.size : Int) := by
      rw [E.size_kids e, sum_sizes]
      omega
    rw [e3]
    exact k _ (k1.trans k2)
theorem ok_count {f : Addr} {fd : FuncData} (A : At K mg "count" s_count ["e"] f fd) (T : TxtP K w mg a_SHAPES C_Sites) (c_parts_of : Has P w K mg base "parts_of" ["e"] 1 spPartsOf) : ∀ n, Has P w K mg base "count" ["e"] (1 + n) (spCount n)
  | 0 => ⟨f, fd, none_left fun vs H Q E ⟨_, _, _, _, _, _, h1, _⟩ => by omega, A.m, A.F.kp, A.b⟩
  | n + 1 => ok_count_step A T c_parts_of (ok_count A T c_parts_of n)
theorem ok_need_program {f : Addr} {fd : FuncData} (A : At K mg "need_program" s_need_program ["program"] f fd) (T : TxtP K w mg a_SHAPES C_Sites) (c_is_expression : Has P w K mg base "is_expression" ["e", "names", "within"] 9 (spIsExp 8))
    (c_count : Has P w K mg base "count" ["e"] 9 (spCount 8)) : Has P w K mg base "need_program" ["program"] 10 spNeed := by
  obtain ⟨f_is_expression, fd_is_expression, G_is_expression, m_is_expression, k_is_expression, b_is_expression⟩ := c_is_expression
  obtain ⟨f_count, fd_count, G_count, m_count, k_count, b_count⟩ := c_count
  refine ⟨f, fd, A.F.ok sc_need_program (fun vs H Q EE h => ?_) (fun cdv A outer s H vs Q EE hr h => ?_), A.m, A.F.kp, A.b⟩
  · obtain ⟨_, _, rfl, _⟩ := h
    rfl
  obtain ⟨e, v, rfl, hre, hw, hd, hz, k⟩ := h
  refine ⟨_, (pss_one (ps_if (PW.pt (pw_or (pt_not (pt_val (pe_call G_is_expression (hr.mono (by first | decide | omega)) (by rfl) m_is_expression k_is_expression b_is_expression .nil pass0 (pa_cons (pv 0) (pa_cons (pe_lst pa_nil) (pa_cons pe_int pa_nil)))))) (pw_or1 (pt_cmpR op_gt (pe_call G_count (hr.mono (by first | decide | omega)) (by rfl) m_count k_count b_count .nil pass0 (pa_cons (pv 0) pa_nil)) (w_gint (n := 60) (by rfl) T.m_MOST_PARTS) (nomark _)))))
        (pss_one ps_never)
        pss_nil)), ?_⟩
  refine at_st (σ' := [some v]) rfl ?_
  walk_at "gi"
  rename_i l H1 n1 k1 h1
  refine rd_isExp (B := []) (wi := 0) (by walk_at "hp") h1 (by decide) hw (by omega) (by omega) fun H2 k2 => ?_
  walk_at "gi"
  refine rd_count (by walk_at "hp") hw (by omega) fun H3 k3 => ?_
  walk_at "gi"
  refine ite_dF (by omega) ?_
  walk_at "gi"
  exact k H3 (by walk_at "kp")
end
end EW

end
section
open PySem L2 EW
local macro_rules | `(tactic| walk_at "ne") => `(tactic| first
  | assumption
  | exact Ne.symm (by assumption)
  | ((with_reducible refine' EW.RowAt.newne ?n ?h); (case n => assumption); (case h => walk_at "hp"))
  | ((with_reducible refine' Ne.symm (EW.RowAt.newne ?n ?h)); (case n => assumption); (case h => walk_at "hp"))
  | ((with_reducible refine' EW.BoxAt.newne ?n ?h); (case n => assumption); (case h => walk_at "hp"))
  | ((with_reducible refine' Ne.symm (EW.BoxAt.newne ?n ?h)); (case n => assumption); (case h => walk_at "hp")))
local macro_rules | `(tactic| walk_at "ns") => `(tactic| first
  | assumption
  | exact EW.RowAt.ne (by assumption)
  | ((with_reducible refine' EW.RowAt.notin ?n ?h); (case n => assumption); (case h => walk_at "hp")))
local macro_rules | `(tactic| walk_at "ni") => `(tactic| first
  | with_reducible exact EW.ne_mem0
  | with_reducible exact EW.dis0
  | ((with_reducible refine' EW.ne_mem1 ?h); (case h => walk_at "ne"))
  | ((with_reducible refine' EW.ne_mem2 ?h ?g); (case h => walk_at "ne"); (case g => walk_at "ne"))
  | ((with_reducible refine' EW.dis1 ?h); (case h => walk_at "ns"))
  | ((with_reducible refine' EW.dis2 ?h ?g); (case h => walk_at "ns"); (case g => walk_at "ns")))
local macro_rules | `(tactic| walk_at "hp") => `(tactic| first
  | assumption
  | ((with_reducible refine' EW.RE.mono (EW.Kp.tup ?k) ?h); (case k => assumption); (case h => walk_at "hp"))
  | ((with_reducible refine' EW.Kp.tup ?k _ _ ?h); (case k => assumption); (case h => walk_at "hp"))
  | ((with_reducible refine' EW.kp_tup ?k ?h); (case k => assumption); (case h => walk_at "hp"))
  | ((with_reducible refine' EW.Kp.keep ?k _ _ ?h ?n); (case k => assumption); (case h => walk_at "hp"); (case n => walk_at "ni"))
  | ((with_reducible refine' EW.Kp.seqL ?k ?h ?n); (case k => assumption); (case h => walk_at "hp"); (case n => walk_at "ni"))
  | ((with_reducible refine' EW.RowAt.keep ?k ?h ?n1 ?n2); (case k => assumption); (case h => walk_at "hp"); (case n1 => walk_at "ni"); (case n2 => walk_at "ni"))
  | ((with_reducible refine' EW.ScAt.keep ?k ?h ?n); (case k => assumption); (case h => walk_at "hp"); (case n => walk_at "ni"))
  | ((with_reducible refine' EW.BoxAt.keep ?k ?h ?n); (case k => assumption); (case h => walk_at "hp"); (case n => walk_at "ni"))
  | ((with_reducible refine' L2.SqL.of ?h); (case h => walk_at "hp"))
  | ((with_reducible refine' L2.SqT.of ?h); (case h => walk_at "hp")))
local macro_rules | `(tactic| walk_at "sb") => `(tactic| first
  | exact EW.sub0
  | exact EW.sub_refl
  | exact EW.sub_l
  | exact EW.sub_r)
local macro_rules | `(tactic| walk_at "kp") => `(tactic| first
  | exact EW.Kp.refl
  | assumption
  | ((with_reducible refine' EW.Kp.trans ?h (EW.Kp.mono ?k ?s)); (case k => assumption); (case s => walk_at "sb"); (case h => walk_at "kp")))
local macro_rules | `(tactic| walk_at "st") => `(tactic| first
  | with_reducible refine rd_seq ?_
  | with_reducible refine rd_next ?_
  | with_reducible refine rd_asg ?_
  | with_reducible refine rd_name ?_
  | with_reducible refine rd_ret ?_
  | with_reducible refine rd_drop ?_
  | ((with_reducible refine' rd_var ?e ?_); (case e => first | with_reducible assumption | exact rfl | assumption))
  | with_reducible refine rd_c ?_
  | with_reducible refine rd_op ?_
  | with_reducible refine rd_I0 ?_
  | with_reducible refine rd_test ?_
  | with_reducible refine rd_tB ?_
  | with_reducible refine rd_not ?_
  | with_reducible refine rd_and ?_
  | with_reducible refine rd_or ?_
  | with_reducible refine rd_ifE ?_
  | with_reducible refine rd_notV ?_
  | with_reducible refine rd_andV ?_
  | with_reducible refine rd_orV ?_
  | with_reducible refine rd_cons ?_
  | with_reducible refine EW.rd_par ?_
  | with_reducible refine EW.rd_par2 ?_
  | with_reducible refine EW.rd_parT ?_
  | with_reducible refine EW.rd_par3 ?_
  | with_reducible refine rd_nil ?_
  | with_reducible refine rd_cb ?_
  | with_reducible refine rd_call ?_
  | with_reducible refine rd_meth ?_
  | with_reducible refine rd_sub ?_
  | with_reducible refine rd_fl ?_
  | with_reducible refine rd_tup ?_
  | with_reducible refine rd_lst ?_
  | with_reducible refine rd_sl ?_
  | with_reducible refine rd_part ?_
  | with_reducible refine rd_partI ?_
  | with_reducible refine rd_nopart ?_
  | with_reducible refine rd_yes ?_
  | with_reducible refine rd_dnewK ?_
  | with_reducible refine rd_dnewT ?_
  | ((with_reducible refine' rd_isT ?h ?_); (case h => walk_at "hp"))
  | with_reducible refine rd_isI ?_
  | with_reducible refine rd_isII ?_
  | with_reducible refine rd_isIB ?_
  | ((with_reducible refine' rd_sum ?h ?_); (case h => walk_at "hp"))
  | ((with_reducible refine' rd_tail ?h ?_); (case h => walk_at "hp"))
  | ((with_reducible refine rd_newO ?_); intro _ _ _ _ _)
  | ((with_reducible refine' rd_lenS ?l ?_); (case l => exact rfl))
  | ((with_reducible refine' rd_ixS ?l ?e ?_); (case l => exact rfl); (case e => first | assumption | with_reducible exact EW.at_head | exact rfl))
  | with_reducible refine EW.ite_dT (by decide +kernel) ?_
  | with_reducible refine EW.ite_dF (by decide +kernel) ?_
  | with_reducible refine EW.ite_nT (by decide +kernel) ?_
  | with_reducible refine EW.ite_nF (by decide +kernel) ?_
  | with_reducible refine EW.iteNF ?_
  | with_reducible refine EW.iteNT ?_
  | with_reducible refine EW.iteEC ?_
  | with_reducible refine EW.iteEN ?_
  | with_reducible refine EW.iteNC ?_
  | with_reducible refine EW.iteNN ?_
  | with_reducible refine EW.rd_kget (by assumption) ?_
  | with_reducible refine EW.rd_kgx (by assumption) _ ?_
  | with_reducible refine EW.rd_ixD (by assumption) _ ?_
  | with_reducible refine EW.rd_chain ?_
  | with_reducible refine L2.iteT ?_
  | with_reducible refine L2.iteF ?_
  | with_reducible refine rd_bm ?_
  | with_reducible refine rd_bm0 ?_
  | with_reducible refine rd_sfld ?_
  | with_reducible refine rd_make ?_
  | ((with_reducible refine' rd_bmL ?s ?_); (case s => walk_at "hp"))
  | ((with_reducible refine' rd_bm0L ?s ?_); (case s => walk_at "hp"))
  | ((with_reducible refine' rd_mex ?s ?l ?_); (case s => walk_at "hp"); (case l => assumption))
  | with_reducible refine rd_lc ?_
  | with_reducible refine rd_for ?_
  | with_reducible refine rd_il ?_
  | with_reducible refine rd_it ?_
  | with_reducible refine rd_ir ?_
  | with_reducible refine rd_dput ?_
  | with_reducible refine rd_dget ?_
  | ((with_reducible refine' rd_ilx ?s ?_); (case s => walk_at "hp"))
  | ((with_reducible refine' rd_itx ?s ?_); (case s => walk_at "hp"))
  | ((with_reducible refine' rd_getK ?s ?e ?_); (case s => walk_at "hp"); (case e => assumption))
  | ((with_reducible refine rd_newT rfl ?_); intro _ _ _ _ _)
  | ((with_reducible refine rd_newL rfl ?_); intro _ _ _ _ _)
  | ((with_reducible refine' rd_taken ?a ?b ?c ?_); (case a => walk_at "hp"); (case b => first | omega | decide); (case c => first | omega | decide); intro _ _ _ _ _)
  | ((with_reducible refine' rd_neE ?a ?b ?_); (case a => walk_at "hp"); (case b => walk_at "hp"))
  | ((with_reducible refine' rd_eqE ?a ?b ?_); (case a => walk_at "hp"); (case b => walk_at "hp"))
  | with_reducible refine rd_eq rfl ?_
  | with_reducible refine rd_ne rfl ?_
  | with_reducible refine rd_bl ?_
  | ((with_reducible refine rd_I ?c ?_); (case c => first | assumption | omega | decide | (exact Or.inl ⟨by omega, by omega⟩) | (exact ⟨by omega, by omega⟩) | (exact ⟨by decide, by decide, by decide⟩)))
  | refine Or.inl ⟨_, rfl, ?_⟩
  | refine Or.inr ⟨_, rfl, ?_⟩
  | ((with_reducible refine' rd_lenL ?s ?_); (case s => walk_at "hp"))
  | ((with_reducible refine' rd_lenT ?s ?_); (case s => walk_at "hp"))
  | ((with_reducible refine' rd_ixL ?s ?e ?_); (case s => walk_at "hp"); (case e => first | assumption | with_reducible exact EW.at_head | exact rfl))
  | ((with_reducible refine' rd_ixT ?s ?e ?_); (case s => walk_at "hp"); (case e => first | assumption | with_reducible exact EW.at_head | exact rfl))
  | ((with_reducible refine' rd_flx ?s ?c ?n ?l ?_); (case s => walk_at "hp"); (case c => assumption); (case n => assumption); (case l => assumption)))
local macro_rules | `(tactic| walk_at "go") => `(tactic| repeat (walk_at "st"))
local macro_rules | `(tactic| walk_at "gi") => `(tactic| repeat (first | with_reducible refine rd_if ?_ | walk_at "st"))
namespace EW
open PySem L2
def oV : Option Nat → V
  | none => .non
  | some n => nV n
/-- the fields of a Sites object while it is made -/
structure SFl (fl : List (Str × V)) (lo lf du : Addr) : Prop where
  o : fl.lookup ("owners" : Str) = some (.ref lo)
  f : fl.lookup ("funs" : Str) = some (.ref lf)
  u : fl.lookup ("used" : Str) = some (.ref du)
  m1 : fl.lookup ("new_site" : Str) = none
  m2 : fl.lookup ("sited" : Str) = none
  m3 : fl.lookup ("sites_of" : Str) = none
  m4 : fl.lookup ("house_of" : Str) = none
abbrev Ua := List (Nat × Addr × List Nat)
def kvU (us : Ua) : List (Key × V) := us.map fun u => (Sum.inl (u.1 : Int), V.ref u.2.1)
def Ua.us (us : Ua) : Us := us.map fun u => (u.1, u.2.2)
def Ua.ad (us : Ua) : List Addr := us.map fun u => u.2.1
structure SAt (H : Hp) (C p dx : Addr) (fl : List (Str × V)) (lo lf du : Addr) (ow : List (Option Nat)) (fs : List Nat) (us : Ua) : Prop where
  ob : H p = some (.ins C dx fl)
  fl : SFl fl lo lf du
  ho : H lo = some (.lst (ow.map oV))
  hf : H lf = some (.lst (fs.map nV))
  hu : H du = some (.dK (kvU us))
  hl : ∀ u ∈ us, H u.2.1 = some (.lst (u.2.2.map nV))
  nd : (lo :: lf :: us.ad).Nodup
  ks : (us.map (fun u => u.1)).Nodup
/-- what a method of it may change -/
def sM (lo lf du : Addr) (us : Ua) : List Addr := lo :: lf :: du :: us.ad
theorem SAt.keep {H H' : Hp} {C p dx : Addr} {fl : List (Str × V)} {lo lf du : Addr} {ow : List (Option Nat)} {fs : List Nat} {us : Ua} {M : List Addr} (k : Kp M H H') (S : SAt H C p dx fl lo lf du ow fs us)
    (n : ∀ m ∈ M, m ≠ p ∧ m ∉ sM lo lf du us) : SAt H' C p dx fl lo lf du ow fs us where
  ob := k.keep _ _ S.ob fun z => (n _ z).1 rfl
  fl := S.fl
  ho := k.keep _ _ S.ho fun z => (n _ z).2 List.mem_cons_self
  hf := k.keep _ _ S.hf fun z => (n _ z).2 (List.mem_cons_of_mem _ List.mem_cons_self)
  hu := k.keep _ _ S.hu fun z => (n _ z).2 (List.mem_cons_of_mem _ (List.mem_cons_of_mem _ List.mem_cons_self))
  hl := fun u hm => k.keep _ _ (S.hl u hm) fun z => (n _ z).2 (List.mem_cons_of_mem _ (List.mem_cons_of_mem _ (List.mem_cons_of_mem _ (List.mem_map.mpr ⟨u, hm, rfl⟩))))
  nd := S.nd
  ks := S.ks
theorem SAt.keep0 {H H' : Hp} {C p dx : Addr} {fl : List (Str × V)} {lo lf du : Addr} {ow : List (Option Nat)} {fs : List Nat} {us : Ua} (k : Kp [] H H') (S : SAt H C p dx fl lo lf du ow fs us) : SAt H' C p dx fl lo lf du ow fs us :=
  S.keep k fun _ z => nomatch z
theorem SAt.there {H : Hp} {C p dx : Addr} {fl : List (Str × V)} {lo lf du : Addr} {ow : List (Option Nat)} {fs : List Nat} {us : Ua} (S : SAt H C p dx fl lo lf du ow fs us) : ∀ m ∈ sM lo lf du us, ∃ o, H m = some o := by
  intro m hm
  unfold sM at hm
  rcases List.mem_cons.mp hm with rfl | hm
  · exact ⟨_, S.ho⟩
  rcases List.mem_cons.mp hm with rfl | hm
  · exact ⟨_, S.hf⟩
  rcases List.mem_cons.mp hm with rfl | hm
  · exact ⟨_, S.hu⟩
  obtain ⟨u, hu, rfl⟩ := List.mem_map.mp hm
  exact ⟨_, S.hl u hu⟩
theorem SAt.pM {H : Hp} {C p dx : Addr} {fl : List (Str × V)} {lo lf du : Addr} {ow : List (Option Nat)} {fs : List Nat} {us : Ua} (S : SAt H C p dx fl lo lf du ow fs us) : p ∉ sM lo lf du us := by
  intro hm
  have ob := S.ob
  unfold sM at hm
  rcases List.mem_cons.mp hm with e | hm
  · rw [e, S.ho] at ob; cases ob
  rcases List.mem_cons.mp hm with e | hm
  · rw [e, S.hf] at ob; cases ob
  rcases List.mem_cons.mp hm with e | hm
  · rw [e, S.hu] at ob; cases ob
  obtain ⟨u, hu, e⟩ := List.mem_map.mp hm
  rw [← e, S.hl u hu] at ob
  cases ob
theorem ne_kind {H : Hp} {a b : Addr} {o u : HO} (h : H a = some o) (h' : H b = some u) (d : o ≠ u) : a ∉ [b] := ne_mem1 (ne_of h h' d)
theorem SAt.chO {H H' : Hp} {C p dx : Addr} {fl : List (Str × V)} {lo lf du : Addr} {ow ow' : List (Option Nat)} {fs : List Nat} {us : Ua} (S : SAt H C p dx fl lo lf du ow fs us) (k : Kp [lo] H H') (h : H' lo = some (.lst (ow'.map oV))) : SAt H' C p dx fl lo lf du ow' fs us where
  ob := k.keep _ _ S.ob (ne_kind S.ob S.ho fun z => nomatch z)
  fl := S.fl
  ho := h
  hf := k.keep _ _ S.hf (ne_mem1 fun e => by have := S.nd; rw [e] at this; simp at this)
  hu := k.keep _ _ S.hu (ne_kind S.hu S.ho fun z => nomatch z)
  hl := fun u hm => k.keep _ _ (S.hl u hm) (ne_mem1 fun e => by
    have := S.nd
    rw [List.nodup_cons] at this
    exact this.1 (List.mem_cons_of_mem _ (List.mem_map.mpr ⟨u, hm, e⟩)))
  nd := S.nd
  ks := S.ks
theorem SAt.chF {H H' : Hp} {C p dx : Addr} {fl : List (Str × V)} {lo lf du : Addr} {ow : List (Option Nat)} {fs fs' : List Nat} {us : Ua} (S : SAt H C p dx fl lo lf du ow fs us) (k : Kp [lf] H H') (h : H' lf = some (.lst (fs'.map nV))) : SAt H' C p dx fl lo lf du ow fs' us where
  ob := k.keep _ _ S.ob (ne_kind S.ob S.hf fun z => nomatch z)
  fl := S.fl
  ho := k.keep _ _ S.ho (ne_mem1 fun e => by have := S.nd; rw [e] at this; simp at this)
  hf := h
  hu := k.keep _ _ S.hu (ne_kind S.hu S.hf fun z => nomatch z)
  hl := fun u hm => k.keep _ _ (S.hl u hm) (ne_mem1 fun e => by
    have := S.nd
    rw [List.nodup_cons, List.nodup_cons] at this
    exact this.2.1 (List.mem_map.mpr ⟨u, hm, e⟩))
  nd := S.nd
  ks := S.ks
theorem SAt.newU {H H1 H' : Hp} {C p dx : Addr} {fl : List (Str × V)} {lo lf du a : Addr} {ow : List (Option Nat)} {fs : List Nat} {us : Ua} {n : Nat} (S : SAt H C p dx fl lo lf du ow fs us) (ha : H a = none) (k1 : Kp [] H H1) (h1 : H1 a = some (.lst []))
    (k : Kp [du] H1 H') (hn : n ∉ us.map (fun u => u.1)) (h : H' du = some (.dK (kvU (us ++ [(n, a, [])])))) : SAt H' C p dx fl lo lf du ow fs (us ++ [(n, a, [])]) where
  ob := k.keep _ _ (S.keep0 k1).ob (ne_kind (S.keep0 k1).ob (S.keep0 k1).hu fun z => nomatch z)
  fl := S.fl
  ho := k.keep _ _ (S.keep0 k1).ho (ne_kind (S.keep0 k1).ho (S.keep0 k1).hu fun z => nomatch z)
  hf := k.keep _ _ (S.keep0 k1).hf (ne_kind (S.keep0 k1).hf (S.keep0 k1).hu fun z => nomatch z)
  hu := h
  hl := fun u hm => by
    rcases List.mem_append.mp hm with hm | hm
    · exact k.keep _ _ ((S.keep0 k1).hl u hm) (ne_kind ((S.keep0 k1).hl u hm) (S.keep0 k1).hu fun z => nomatch z)
    · rw [List.mem_singleton.mp hm]
      exact k.keep _ _ h1 (ne_kind h1 (S.keep0 k1).hu fun z => nomatch z)
  nd := by
    have e : Ua.ad (us ++ [(n, a, ([] : List Nat))]) = us.ad ++ [a] := by unfold Ua.ad; rw [List.map_append] <;> rfl
    rw [e]
    refine nd_snoc (l := lo :: lf :: us.ad) S.nd fun z => ?_
    have : ∃ o, H a = some o := by
      rcases List.mem_cons.mp z with z | z
      · exact ⟨_, z ▸ S.ho⟩
      rcases List.mem_cons.mp z with z | z
      · exact ⟨_, z ▸ S.hf⟩
      obtain ⟨u, hu, e⟩ := List.mem_map.mp z
      exact ⟨_, e ▸ S.hl u hu⟩
    obtain ⟨o, ho⟩ := this
    rw [ha] at ho
    cases ho
  ks := by
    rw [List.map_append]
    exact nd_snoc S.ks hn
theorem sM_lo {lo lf du : Addr} {us : Ua} : ∀ b ∈ [lo], b ∈ sM lo lf du us := fun b h => by rw [List.mem_singleton.mp h]; exact List.mem_cons_self
theorem sM_lf {lo lf du : Addr} {us : Ua} : ∀ b ∈ [lf], b ∈ sM lo lf du us := fun b h => by rw [List.mem_singleton.mp h]; exact List.mem_cons_of_mem _ List.mem_cons_self
theorem sM_du {lo lf du : Addr} {us : Ua} : ∀ b ∈ [du], b ∈ sM lo lf du us := fun b h => by rw [List.mem_singleton.mp h]; exact List.mem_cons_of_mem _ (List.mem_cons_of_mem _ List.mem_cons_self)
theorem valU : ∀ {us : Ua} {u : Nat × Addr × List Nat}, (us.map (fun u => u.1)).Nodup → u ∈ us → valV (kvU us) (Sum.inl (u.1 : Int)) = some (V.ref u.2.1)
  | [], _, _, h => nomatch h
  | x :: r, u, n, h => by
    unfold kvU
    rw [List.map_cons]
    rcases List.mem_cons.mp h with rfl | h
    · rw [valV_pos rfl]
    · have hne : ¬ x.1 = u.1 := fun e => by
        rw [List.map_cons, List.nodup_cons] at n
        exact n.1 (by rw [e]; exact List.mem_map.mpr ⟨u, h, rfl⟩)
      rw [valV_neg (fun q => hne (Int.ofNat.inj (Sum.inl.inj q)))]
      exact valU (by rw [List.map_cons, List.nodup_cons] at n; exact n.2) h
theorem valU_none {us : Ua} {k : Nat} (h : k ∉ us.map (fun u => u.1)) : valV (kvU us) (Sum.inl (k : Int)) = none := by
  induction us with
  | nil => rfl
  | cons x r ih =>
    unfold kvU
    rw [List.map_cons]
    rw [valV_neg (fun q => h (by rw [List.map_cons]; exact List.mem_cons.mpr (.inl (Int.ofNat.inj (Sum.inl.inj q)).symm)))]
    exact ih fun z => h (by rw [List.map_cons]; exact List.mem_cons_of_mem _ z)
/-- the sites of the names in scope -/
def ScoAt (H : Hp) (c : Addr) (sc : Sc) (L : Nat) : Prop := ∃ kvs : List (Key × V), H c = some (.dK kvs) ∧ kvs.length ≤ L ∧ ∀ k : Nat, valV kvs (Sum.inl (k : Int)) = (sc k).map nV
theorem ScoAt.keep {H H' : Hp} {c : Addr} {sc : Sc} {L : Nat} {M : List Addr} (k : Kp M H H') (h : ScoAt H c sc L) (n : c ∉ M) : ScoAt H' c sc L := let ⟨kvs, h1, h2⟩ := h; ⟨kvs, k.keep _ _ h1 n, h2⟩
def spWithName : Sp := fun vs H Q _ => ∃ (c : Addr) (k s : Nat) (sc : Sc) (L : Nat), vs = [.ref c, nV k, nV s] ∧ ScoAt H c sc L ∧ L < 900000 ∧ ∀ (r : Addr) H', H r = none → Kp [] H H' → ScoAt H' r (sc.set k s) (L + 1) → Q (.ref r) H'
theorem rd_withName {H : Hp} {c : Addr} {k s : Nat} {sc : Sc} {L : Nat} {Q : VK} {EE : XK} (h : ScoAt H c sc L) (l : L < 900000) (q : ∀ (r : Addr) H', H r = none → Kp [] H H' → ScoAt H' r (sc.set k s) (L + 1) → Q (.ref r) H') :
    spWithName ([.ref c, nV k, nV s] ++ []) H Q EE := ⟨c, k, s, sc, L, rfl, h, l, q⟩
/-- a new site, of a let -/
def spNewSite (C : Addr) : Sp := fun vs H Q _ => ∃ (p dx : Addr) (fl : List (Str × V)) (lo lf du : Addr) (ow : List (Option Nat)) (fs : List Nat) (us : Ua) (o : Option Nat) (b : Bool), vs = [.ref p, oV o, .bl b] ∧ SAt H C p dx fl lo lf du ow fs us ∧ ow.length < 900 ∧ fs.length < 900 ∧ us.length < 900 ∧
  (b = true → ow.length ∉ us.map (fun u => u.1)) ∧
  (b = false → ∀ H', SAt H' C p dx fl lo lf du (ow ++ [o]) fs us → Kp (sM lo lf du us) H H' → Q (nV ow.length) H') ∧
  (b = true → ∀ (a : Addr) H', H a = none → SAt H' C p dx fl lo lf du (ow ++ [some ow.length]) (fs ++ [ow.length]) (us ++ [(ow.length, a, [])]) → Kp (sM lo lf du us) H H' → Q (nV ow.length) H')
section
variable {P : Program} {w : World} {K : PySem.W.Frag} {mg : Str → Option Value} {base : Heap} {a_SHAPES C_Sites : Addr}
theorem ok_with_name {f : Addr} {fd : FuncData} (A : At K mg "with_name" s_with_name ["scope", "name", "site"] f fd) (T : TxtB mg) : Has P w K mg base "with_name" ["scope", "name", "site"] 1 spWithName := by
  refine ⟨f, fd, A.F.ok sc_with_name (fun vs H Q EE h => ?_) (fun cdv A outer s H vs Q EE hr h => ?_), A.m, A.F.kp, A.b⟩
  · obtain ⟨_, _, _, _, _, rfl, _⟩ := h
    rfl
  obtain ⟨c, k, n, sc, L, rfl, ⟨kvs, hc, hl, hv⟩, hL, q⟩ := h
  have hu := hu_of hr
  refine ⟨_, (pss_cons (ps_set (i := 3) sc_with_name.nd rfl (Or.inl rfl) (pe_callTy call_dict_copy (by rfl) T.z_dict (by decide +kernel) (pa_cons (pv 0) pa_nil)))
      (pss_cons (ps_dput hu (pv 3) (pv 1) (pv 2) rfl)
      (pss_one (ps_ret (pv 3))))), ?_⟩
  refine at_st (σ' := [some (.ref c), some (nV k), some (nV n), none]) rfl ?_
  walk_at "go"
  refine rd_dcopy hc (rd_newO fun p H1 hp k1 h1 => ?_)
  walk_at "go"
  refine rd_putK h1 (by omega) fun H2 k2 h2 => ?_
  walk_at "go"
  refine q p H2 hp (k1.chg hp k2) ⟨_, h2, ?_, fun j => ?_⟩
  · have := length_putK kvs (Sum.inl (k : Int)) (nV n)
    omega
  · rw [valV_put]
    unfold Sc.set
    by_cases e : j = k
    · rw [if_pos (by rw [e]), if_pos e] <;> rfl
    · rw [if_neg (show ¬ (Sum.inl (j : Int) : Key) = Sum.inl (k : Int) from fun z => e (Int.ofNat.inj (Sum.inl.inj z))), if_neg e]
      exact hv j
theorem ok_new_site {f : Addr} {fd : FuncData} (A : AtM K C_Sites "new_site" "Sites.new_site" s_Sites_new_site ["self", "owner", "is_fun"] f fd) (T : TxtP K w mg a_SHAPES C_Sites) : HasM P w K mg base C_Sites "new_site" ["self", "owner", "is_fun"] 1 (spNewSite C_Sites) := by
  refine ⟨f, fd, A.F.ok sc_Sites_new_site (fun vs H Q EE h => ?_) (fun cdv A outer s H vs Q EE hr h => ?_), A.m, A.b⟩
  · obtain ⟨_, _, _, _, _, _, _, _, _, _, _, rfl, _⟩ := h
    rfl
  obtain ⟨p, dx, fl, lo, lf, du, ow, fs, us, o, b, rfl, S, hl1, hl2, hl3, hkey, hq0, hq1⟩ := h
  have hu := hu_of hr
  have cl := T.cl_Sites
  have n1 := T.n_owners
  have n2 := T.n_funs
  have n3 := T.n_used
  obtain ⟨ho, hf, hU, m1, m2, m3, m4⟩ := S.fl
  have hob := S.ob
  have hlo := S.ho
  have hlf := S.hf
  have hdu := S.hu
  have nd := S.nd
  refine ⟨_, (pss_cons (ps_set (i := 3) sc_Sites_new_site.nd rfl (Or.inl rfl) (pe_callB (w_len (K := K) rfl) (by rfl) T.z_len PySem.boot_len (pa_cons (w_fld (K := K) rfl (pv 0) rfl) pa_nil)))
      (pss_cons (ps_expr (pe_bm PySem.F.plainAttrs_list PySem.F.slot_list_append PySem.F.type_list_append mt_append (w_fld (K := K) rfl (pv 0) rfl) (pa_cons (pe_ifExp (pt_val (pv 2)) (pv 3) (pv 1)) pa_nil)))
      (pss_cons (ps_if (pt_val (pv 2))
        (pss_cons (ps_expr (pe_bm PySem.F.plainAttrs_list PySem.F.slot_list_append PySem.F.type_list_append mt_append (w_fld (K := K) rfl (pv 0) rfl) (pa_cons (pv 3) pa_nil)))
        (pss_one (ps_dput hu (w_fld (K := K) rfl (pv 0) rfl) (pv 3) (pe_lst pa_nil) rfl)))
        pss_nil)
      (pss_one (ps_ret (pv 3)))))), ?_⟩
  refine at_st (σ' := [some (.ref p), some (oV o), some (.bl b), none]) rfl ?_
  have hlen : (ow.map oV).length = ow.length := List.length_map _
  walk_at "go"
  cases b with
  | false =>
    walk_at "go"
    refine rd_app hlo (by omega) fun H1 k1 h1 => ?_
    walk_at "gi"
    rw [hlen]
    exact hq0 rfl H1 (S.chO k1 (by rw [h1, List.map_append] <;> rfl)) (k1.mono sM_lo)
  | true =>
    walk_at "go"
    refine rd_app hlo (by omega) fun H1 k1 h1 => ?_
    have S1 := S.chO (ow' := ow ++ [some ow.length]) k1 (by rw [h1, List.map_append, hlen] <;> rfl)
    have hob1 := S1.ob
    have hlf1 := S1.hf
    walk_at "gi"
    refine rd_app hlf1 (by rw [List.length_map]; omega) fun H2 k2 h2 => ?_
    have S2 := S1.chF (fs' := fs ++ [ow.length]) k2 (by rw [h2, List.map_append, hlen] <;> rfl)
    have hob2 := S2.ob
    walk_at "gi"
    rename_i a H3 na k3 h3
    have hu3 := (S2.keep0 k3).hu
    refine rd_putK hu3 (by unfold kvU; rw [List.length_map]; omega) fun H4 k4 h4 => ?_
    walk_at "gi"
    rw [hlen] at h4 ⊢
    have na0 : H a = none := k1.free (k2.free na)
    refine hq1 rfl a H4 na0 (S2.newU na k3 h3 k4 (hkey rfl) ?_) (((k1.mono sM_lo).trans (k2.mono sM_lf)).trans (k3.up.trans (k4.mono sM_du)))
    rw [h4, putK_new _ (valU_none (hkey rfl))]
    unfold kvU
    rw [List.map_append]
    rfl
end
end EW

end
section
open PySem L2 EW
local macro_rules | `(tactic| walk_at "ne") => `(tactic| first
  | assumption
  | exact Ne.symm (by assumption)
  | ((with_reducible refine' EW.RowAt.newne ?n ?h); (case n => assumption); (case h => walk_at "hp"))
  | ((with_reducible refine' Ne.symm (EW.RowAt.newne ?n ?h)); (case n => assumption); (case h => walk_at "hp"))
  | ((with_reducible refine' EW.BoxAt.newne ?n ?h); (case n => assumption); (case h => walk_at "hp"))
  | ((with_reducible refine' Ne.symm (EW.BoxAt.newne ?n ?h)); (case n => assumption); (case h => walk_at "hp")))
local macro_rules | `(tactic| walk_at "ns") => `(tactic| first
  | assumption
  | exact EW.RowAt.ne (by assumption)
  | ((with_reducible refine' EW.RowAt.notin ?n ?h); (case n => assumption); (case h => walk_at "hp")))
local macro_rules | `(tactic| walk_at "ni") => `(tactic| first
  | with_reducible exact EW.ne_mem0
  | with_reducible exact EW.dis0
  | ((with_reducible refine' EW.ne_mem1 ?h); (case h => walk_at "ne"))
  | ((with_reducible refine' EW.ne_mem2 ?h ?g); (case h => walk_at "ne"); (case g => walk_at "ne"))
  | ((with_reducible refine' EW.dis1 ?h); (case h => walk_at "ns"))
  | ((with_reducible refine' EW.dis2 ?h ?g); (case h => walk_at "ns"); (case g => walk_at "ns")))
local macro_rules | `(tactic| walk_at "hp") => `(tactic| first
  | assumption
  | ((with_reducible refine' EW.RE.mono (EW.Kp.tup ?k) ?h); (case k => assumption); (case h => walk_at "hp"))
  | ((with_reducible refine' EW.Kp.tup ?k _ _ ?h); (case k => assumption); (case h => walk_at "hp"))
  | ((with_reducible refine' EW.kp_tup ?k ?h); (case k => assumption); (case h => walk_at "hp"))
  | ((with_reducible refine' EW.Kp.keep ?k _ _ ?h ?n); (case k => assumption); (case h => walk_at "hp"); (case n => walk_at "ni"))
  | ((with_reducible refine' EW.Kp.seqL ?k ?h ?n); (case k => assumption); (case h => walk_at "hp"); (case n => walk_at "ni"))
  | ((with_reducible refine' EW.RowAt.keep ?k ?h ?n1 ?n2); (case k => assumption); (case h => walk_at "hp"); (case n1 => walk_at "ni"); (case n2 => walk_at "ni"))
  | ((with_reducible refine' EW.ScAt.keep ?k ?h ?n); (case k => assumption); (case h => walk_at "hp"); (case n => walk_at "ni"))
  | ((with_reducible refine' EW.BoxAt.keep ?k ?h ?n); (case k => assumption); (case h => walk_at "hp"); (case n => walk_at "ni"))
  | ((with_reducible refine' L2.SqL.of ?h); (case h => walk_at "hp"))
  | ((with_reducible refine' L2.SqT.of ?h); (case h => walk_at "hp")))
local macro_rules | `(tactic| walk_at "sb") => `(tactic| first
  | exact EW.sub0
  | exact EW.sub_refl
  | exact EW.sub_l
  | exact EW.sub_r)
local macro_rules | `(tactic| walk_at "kp") => `(tactic| first
  | exact EW.Kp.refl
  | assumption
  | ((with_reducible refine' EW.Kp.trans ?h (EW.Kp.mono ?k ?s)); (case k => assumption); (case s => walk_at "sb"); (case h => walk_at "kp")))
local macro_rules | `(tactic| walk_at "st") => `(tactic| first
  | with_reducible refine rd_seq ?_
  | with_reducible refine rd_next ?_
  | with_reducible refine rd_asg ?_
  | with_reducible refine rd_name ?_
  | with_reducible refine rd_ret ?_
  | with_reducible refine rd_drop ?_
  | ((with_reducible refine' rd_var ?e ?_); (case e => first | with_reducible assumption | exact rfl | assumption))
  | with_reducible refine rd_c ?_
  | with_reducible refine rd_op ?_
  | with_reducible refine rd_I0 ?_
  | with_reducible refine rd_test ?_
  | with_reducible refine rd_tB ?_
  | with_reducible refine rd_not ?_
  | with_reducible refine rd_and ?_
  | with_reducible refine rd_or ?_
  | with_reducible refine rd_ifE ?_
  | with_reducible refine rd_notV ?_
  | with_reducible refine rd_andV ?_
  | with_reducible refine rd_orV ?_
  | with_reducible refine rd_cons ?_
  | with_reducible refine EW.rd_par ?_
  | with_reducible refine EW.rd_par2 ?_
  | with_reducible refine EW.rd_parT ?_
  | with_reducible refine EW.rd_par3 ?_
  | with_reducible refine rd_nil ?_
  | with_reducible refine rd_cb ?_
  | with_reducible refine rd_call ?_
  | with_reducible refine rd_meth ?_
  | with_reducible refine rd_sub ?_
  | with_reducible refine rd_fl ?_
  | with_reducible refine rd_tup ?_
  | with_reducible refine rd_lst ?_
  | with_reducible refine rd_sl ?_
  | with_reducible refine rd_part ?_
  | with_reducible refine rd_partI ?_
  | with_reducible refine rd_nopart ?_
  | with_reducible refine rd_yes ?_
  | with_reducible refine rd_dnewK ?_
  | with_reducible refine rd_dnewT ?_
  | ((with_reducible refine' rd_isT ?h ?_); (case h => walk_at "hp"))
  | with_reducible refine rd_isI ?_
  | with_reducible refine rd_isII ?_
  | with_reducible refine rd_isIB ?_
  | ((with_reducible refine' rd_sum ?h ?_); (case h => walk_at "hp"))
  | ((with_reducible refine' rd_tail ?h ?_); (case h => walk_at "hp"))
  | ((with_reducible refine rd_newO ?_); intro _ _ _ _ _)
  | ((with_reducible refine' rd_lenS ?l ?_); (case l => exact rfl))
  | ((with_reducible refine' rd_ixS ?l ?e ?_); (case l => exact rfl); (case e => first | assumption | with_reducible exact EW.at_head | exact rfl))
  | with_reducible refine EW.ite_dT (by decide +kernel) ?_
  | with_reducible refine EW.ite_dF (by decide +kernel) ?_
  | with_reducible refine EW.ite_nT (by decide +kernel) ?_
  | with_reducible refine EW.ite_nF (by decide +kernel) ?_
  | with_reducible refine EW.iteNF ?_
  | with_reducible refine EW.iteNT ?_
  | with_reducible refine EW.iteEC ?_
  | with_reducible refine EW.iteEN ?_
  | with_reducible refine EW.iteNC ?_
  | with_reducible refine EW.iteNN ?_
  | with_reducible refine EW.rd_kget (by assumption) ?_
  | with_reducible refine EW.rd_kgx (by assumption) _ ?_
  | with_reducible refine EW.rd_ixD (by assumption) _ ?_
  | with_reducible refine EW.rd_chain ?_
  | with_reducible refine L2.iteT ?_
  | with_reducible refine L2.iteF ?_
  | with_reducible refine rd_bm ?_
  | with_reducible refine rd_bm0 ?_
  | with_reducible refine rd_sfld ?_
  | with_reducible refine rd_make ?_
  | ((with_reducible refine' rd_bmL ?s ?_); (case s => walk_at "hp"))
  | ((with_reducible refine' rd_bm0L ?s ?_); (case s => walk_at "hp"))
  | ((with_reducible refine' rd_mex ?s ?l ?_); (case s => walk_at "hp"); (case l => assumption))
  | with_reducible refine rd_lc ?_
  | with_reducible refine rd_for ?_
  | with_reducible refine rd_il ?_
  | with_reducible refine rd_it ?_
  | with_reducible refine rd_ir ?_
  | with_reducible refine rd_dput ?_
  | with_reducible refine rd_dget ?_
  | ((with_reducible refine' rd_ilx ?s ?_); (case s => walk_at "hp"))
  | ((with_reducible refine' rd_itx ?s ?_); (case s => walk_at "hp"))
  | ((with_reducible refine' rd_getK ?s ?e ?_); (case s => walk_at "hp"); (case e => assumption))
  | ((with_reducible refine rd_newT rfl ?_); intro _ _ _ _ _)
  | ((with_reducible refine rd_newL rfl ?_); intro _ _ _ _ _)
  | ((with_reducible refine' rd_taken ?a ?b ?c ?_); (case a => walk_at "hp"); (case b => first | omega | decide); (case c => first | omega | decide); intro _ _ _ _ _)
  | ((with_reducible refine' rd_neE ?a ?b ?_); (case a => walk_at "hp"); (case b => walk_at "hp"))
  | ((with_reducible refine' rd_eqE ?a ?b ?_); (case a => walk_at "hp"); (case b => walk_at "hp"))
  | with_reducible refine rd_eq rfl ?_
  | with_reducible refine rd_ne rfl ?_
  | with_reducible refine rd_bl ?_
  | ((with_reducible refine rd_I ?c ?_); (case c => first | assumption | omega | decide | (exact Or.inl ⟨by omega, by omega⟩) | (exact ⟨by omega, by omega⟩) | (exact ⟨by decide, by decide, by decide⟩)))
  | refine Or.inl ⟨_, rfl, ?_⟩
  | refine Or.inr ⟨_, rfl, ?_⟩
  | ((with_reducible refine' rd_lenL ?s ?_); (case s => walk_at "hp"))
  | ((with_reducible refine' rd_lenT ?s ?_); (case s => walk_at "hp"))
  | ((with_reducible refine' rd_ixL ?s ?e ?_); (case s => walk_at "hp"); (case e => first | assumption | with_reducible exact EW.at_head | exact rfl))
  | ((with_reducible refine' rd_ixT ?s ?e ?_); (case s => walk_at "hp"); (case e => first | assumption | with_reducible exact EW.at_head | exact rfl))
  | ((with_reducible refine' rd_flx ?s ?c ?n ?l ?_); (case s => walk_at "hp"); (case c => assumption); (case n => assumption); (case l => assumption)))
local macro_rules | `(tactic| walk_at "go") => `(tactic| repeat (walk_at "st"))
local macro_rules | `(tactic| walk_at "gi") => `(tactic| repeat (first | with_reducible refine rd_if ?_ | walk_at "st"))
namespace EW
open PySem L2
theorem kp_tup {M : List Addr} {H H' : Hp} {a : Addr} {xs : List V} (k : Kp M H H') (h : H a = some (.tup xs)) : H' a = some (.tup xs) := k.tup _ _ h
theorem Ua.us_keys (us : Ua) : us.us.map (fun u => u.1) = us.map (fun u => u.1) := by unfold Ua.us; rw [List.map_map]; rfl
/-- what a call of sited asks of the object, the names' dict and the funs around -/
structure SPre (H : Hp) (C p dx : Addr) (fl : List (Str × V)) (lo lf du : Addr) (ow : List (Option Nat)) (fs : List Nat) (us : Ua) (c : Addr) (sc : Sc) (L : Nat) (ar : Addr) (arl : List Nat) : Prop where
  S : SAt H C p dx fl lo lf du ow fs us
  hc : ScoAt H c sc L
  cM : c ∉ sM lo lf du us
  ha : H ar = some (.lst (arl.map nV))
  aM : ar ∉ sM lo lf du us
  inn : ∀ f ∈ arl, f ∈ us.us.map (fun u => u.1)
  key : ∀ k ∈ us.us.map (fun u => u.1), k < ow.length
  good : Good us.us
  l1 : fs.length ≤ ow.length
  l2 : us.length ≤ ow.length
/-- new addresses beside those of before -/
def AdNew (H : Hp) (us us' : Ua) : Prop := ∀ a ∈ us'.ad, a ∈ us.ad ∨ H a = none
theorem AdNew.refl {H : Hp} {us : Ua} : AdNew H us us := fun _ h => .inl h
theorem notin_new {H : Hp} {lo lf du x : Addr} {us us' : Ua} {o : HO} (h : H x = some o) (n : x ∉ sM lo lf du us) (w : AdNew H us us') : x ∉ sM lo lf du us' := by
  intro z
  unfold sM at z n
  rcases List.mem_cons.mp z with e | z
  · exact n (e ▸ List.mem_cons_self)
  rcases List.mem_cons.mp z with e | z
  · exact n (e ▸ List.mem_cons_of_mem _ List.mem_cons_self)
  rcases List.mem_cons.mp z with e | z
  · exact n (e ▸ List.mem_cons_of_mem _ (List.mem_cons_of_mem _ List.mem_cons_self))
  rcases w x z with q | q
  · exact n (List.mem_cons_of_mem _ (List.mem_cons_of_mem _ (List.mem_cons_of_mem _ q)))
  · rw [h] at q
    cases q
theorem kp_comp {H H1 H2 : Hp} {lo lf du : Addr} {us us' : Ua} (k1 : Kp (sM lo lf du us) H H1) (w : AdNew H us us') (k2 : Kp (sM lo lf du us') H1 H2) : Kp (sM lo lf du us) H H2 :=
  ⟨fun b o e n => k2.keep b o (k1.keep b o e n) (notin_new e n w), fun b xs e => k2.tup b xs (k1.tup b xs e), fun b o e => let ⟨o1, e1⟩ := k1.there b o e; k2.there b o1 e1⟩
theorem AdNew.trans {H H1 : Hp} {us us1 us2 : Ua} {M : List Addr} (w1 : AdNew H us us1) (k : Kp M H H1) (w2 : AdNew H1 us1 us2) : AdNew H us us2 := fun a h => by
  rcases w2 a h with q | q
  · exact w1 a q
  · exact .inr (k.free q)
theorem sM_fresh {H : Hp} {C p dx : Addr} {fl : List (Str × V)} {lo lf du x : Addr} {ow : List (Option Nat)} {fs : List Nat} {us : Ua} (S : SAt H C p dx fl lo lf du ow fs us) (h : H x = none) : x ∉ sM lo lf du us := fun z => by
  obtain ⟨o, e⟩ := S.there x z
  rw [h] at e
  cases e
theorem SPre.next {H H' : Hp} {C p dx : Addr} {fl : List (Str × V)} {lo lf du : Addr} {ow : List (Option Nat)} {fs : List Nat} {us us' : Ua} {c : Addr} {sc : Sc} {L : Nat} {ar : Addr} {arl : List Nat} (h : SPre H C p dx fl lo lf du ow fs us c sc L ar arl)
    {e : E} {o : Option Nat} {sc' : Sc} {arl' : List Nat} (S' : SAt H' C p dx fl lo lf du (ow ++ own e o ow.length) (fs ++ funs e ow.length) us') (eu : us'.us = mU e sc' ow.length arl' us.us) (w : AdNew H us us') (k : Kp (sM lo lf du us) H H') :
    SPre H' C p dx fl lo lf du (ow ++ own e o ow.length) (fs ++ funs e ow.length) us' c sc L ar arl where
  S := S'
  hc := h.hc.keep k h.cM
  cM := let ⟨_, q, _⟩ := h.hc; notin_new q h.cM w
  ha := k.keep _ _ h.ha h.aM
  aM := notin_new h.ha h.aM w
  inn := fun f hf => by rw [eu, mU_keys]; exact List.mem_append.mpr (.inl (h.inn f hf))
  key := fun f hf => by
    rw [eu, mU_keys] at hf
    rw [List.length_append, own_length]
    rcases List.mem_append.mp hf with q | q
    · have := h.key f q; omega
    · exact (funs_range e _ f q).2
  good := by rw [eu]; exact h.good.mU e _ _ _
  l1 := by rw [List.length_append, List.length_append, own_length]; have := funs_length e ow.length; have := h.l1; omega
  l2 := by
    have q := congrArg List.length (congrArg (List.map (fun u : Nat × List Nat => u.1)) eu)
    rw [mU_keys, List.length_map, List.length_append, List.length_map] at q
    unfold Ua.us at q
    rw [List.length_map, List.length_map] at q
    rw [List.length_append, own_length]
    have := funs_length e ow.length
    have := h.l2
    omega
theorem SPre.keep0 {H H' : Hp} {C p dx : Addr} {fl : List (Str × V)} {lo lf du : Addr} {ow : List (Option Nat)} {fs : List Nat} {us : Ua} {c : Addr} {sc : Sc} {L : Nat} {ar : Addr} {arl : List Nat} (h : SPre H C p dx fl lo lf du ow fs us c sc L ar arl) (k : Kp [] H H') :
    SPre H' C p dx fl lo lf du ow fs us c sc L ar arl :=
  { h with S := h.S.keep0 k, hc := h.hc.keep k ne_mem0, ha := k.keep _ _ h.ha ne_mem0 }
def spSited (C : Addr) (n : Nat) : Sp := fun vs H Q _ => ∃ (p dx : Addr) (fl : List (Str × V)) (lo lf du : Addr) (ow : List (Option Nat)) (fs : List Nat) (us : Ua) (e : E) (v : V) (c : Addr) (sc : Sc) (L : Nat) (o : Option Nat) (ar : Addr) (arl B : List Nat),
  vs = [.ref p, v, .ref c, oV o, .ref ar] ∧ SPre H C p dx fl lo lf du ow fs us c sc L ar arl ∧ RE H e v ∧ e.Wf B ∧ (∀ k ∈ B, ∃ s, sc k = some s) ∧ L + n < 900 ∧ arl.length + n < 900 ∧ e.depth < n ∧ ow.length + e.ns ≤ 200 ∧
  ∀ (v' : V) H' (us' : Ua), SAt H' C p dx fl lo lf du (ow ++ own e o ow.length) (fs ++ funs e ow.length) us' → us'.us = mU e sc ow.length arl us.us → AdNew H us us' → RE H' (sit e sc ow.length) v' → Kp (sM lo lf du us) H H' → Q v' H'
theorem rd_sited {C : Addr} {n : Nat} {H : Hp} {Q : VK} {EE : XK} {p dx : Addr} {fl : List (Str × V)} {lo lf du : Addr} {ow : List (Option Nat)} {fs : List Nat} {us : Ua} {e : E} {v : V} {c : Addr} {sc : Sc} {L : Nat} {o : Option Nat} {ar : Addr} {arl : List Nat} (B : List Nat)
    (h : SPre H C p dx fl lo lf du ow fs us c sc L ar arl) (r : RE H e v) (w : e.Wf B) (b : ∀ k ∈ B, ∃ s, sc k = some s) (l1 : L + n < 900) (l2 : arl.length + n < 900) (d : e.depth < n) (z : ow.length + e.ns ≤ 200)
    (k : ∀ (v' : V) H' (us' : Ua), SAt H' C p dx fl lo lf du (ow ++ own e o ow.length) (fs ++ funs e ow.length) us' → us'.us = mU e sc ow.length arl us.us → AdNew H us us' → RE H' (sit e sc ow.length) v' → Kp (sM lo lf du us) H H' → Q v' H') :
    spSited C n (.ref p :: ([v, .ref c, oV o, .ref ar] ++ [])) H Q EE := ⟨p, dx, fl, lo, lf, du, ow, fs, us, e, v, c, sc, L, o, ar, arl, B, rfl, h, r, w, b, l1, l2, d, z, k⟩
/-- a fun's list grows by one -/
def Ua.ch (us : Ua) (f : Nat) (l : List Nat) : Ua := us.map fun u => if u.1 = f then (u.1, u.2.1, l) else u
theorem Ua.ch_ad (us : Ua) (f : Nat) (l : List Nat) : (us.ch f l).ad = us.ad := by
  unfold Ua.ch Ua.ad
  rw [List.map_map]
  refine List.map_congr_left fun u _ => ?_
  show (if u.1 = f then (u.1, u.2.1, l) else u).2.1 = u.2.1
  split <;> rfl
theorem Ua.ch_kv (us : Ua) (f : Nat) (l : List Nat) : kvU (us.ch f l) = kvU us := by
  unfold Ua.ch kvU
  rw [List.map_map]
  refine List.map_congr_left fun u _ => ?_
  show ((Sum.inl (((if u.1 = f then (u.1, u.2.1, l) else u).1 : Nat) : Int) : Key), V.ref (if u.1 = f then (u.1, u.2.1, l) else u).2.1) = (Sum.inl (u.1 : Int), V.ref u.2.1)
  split <;> rfl
theorem Ua.ch_keys (us : Ua) (f : Nat) (l : List Nat) : (us.ch f l).map (fun u => u.1) = us.map (fun u => u.1) := by
  unfold Ua.ch
  rw [List.map_map]
  refine List.map_congr_left fun u _ => ?_
  show (if u.1 = f then (u.1, u.2.1, l) else u).1 = u.1
  split <;> rfl
theorem key_uniq : ∀ {us : Ua} {u x : Nat × Addr × List Nat}, (us.map (fun u => u.1)).Nodup → u ∈ us → x ∈ us → x.1 = u.1 → x = u
  | [], _, _, _, h, _, _ => nomatch h
  | y :: r, u, x, n, hu, hx, e => by
    rw [List.map_cons, List.nodup_cons] at n
    rcases List.mem_cons.mp hu with h | h <;> rcases List.mem_cons.mp hx with q | q
    · rw [h, q]
    · exact absurd (List.mem_map.mpr ⟨x, q, by rw [e, h]⟩) n.1
    · exact absurd (List.mem_map.mpr ⟨u, h, by rw [← e, q]⟩) n.1
    · exact key_uniq n.2 h q e
theorem SAt.chU {H H' : Hp} {C p dx : Addr} {fl : List (Str × V)} {lo lf du : Addr} {ow : List (Option Nat)} {fs : List Nat} {us : Ua} {u : Nat × Addr × List Nat} {l : List Nat} (S : SAt H C p dx fl lo lf du ow fs us) (hu : u ∈ us) (k : Kp [u.2.1] H H') (h : H' u.2.1 = some (.lst (l.map nV))) :
    SAt H' C p dx fl lo lf du ow fs (us.ch u.1 l) where
  ob := k.keep _ _ S.ob (ne_kind S.ob (S.hl u hu) fun z => nomatch z)
  fl := S.fl
  ho := k.keep _ _ S.ho (ne_mem1 fun e => by
    have := S.nd
    rw [List.nodup_cons] at this
    exact this.1 (List.mem_cons_of_mem _ (List.mem_map.mpr ⟨u, hu, e.symm⟩)))
  hf := k.keep _ _ S.hf (ne_mem1 fun e => by
    have := S.nd
    rw [List.nodup_cons, List.nodup_cons] at this
    exact this.2.1 (List.mem_map.mpr ⟨u, hu, e.symm⟩))
  hu := by rw [Ua.ch_kv]; exact k.keep _ _ S.hu (ne_kind S.hu (S.hl u hu) fun z => nomatch z)
  hl := fun y hy => by
    obtain ⟨x, hx, rfl⟩ := List.mem_map.mp hy
    by_cases c : x.1 = u.1
    · rw [if_pos c]
      have := key_uniq S.ks hu hx c
      subst this
      exact h
    · rw [if_neg c]
      refine k.keep _ _ (S.hl x hx) (ne_mem1 fun e => c ?_)
      have nd := S.nd
      rw [List.nodup_cons, List.nodup_cons] at nd
      have inj : ∀ {l : Ua}, l.ad.Nodup → ∀ {a b}, a ∈ l → b ∈ l → a.2.1 = b.2.1 → a = b := by
        intro l
        induction l with
        | nil => intro _ a b h; cases h
        | cons y r ih =>
          intro n a b ha hb e
          have n' : y.2.1 ∉ Ua.ad r ∧ (Ua.ad r).Nodup := List.nodup_cons.mp n
          rcases List.mem_cons.mp ha with ha | ha <;> rcases List.mem_cons.mp hb with hb | hb
          · rw [ha, hb]
          · exact absurd (List.mem_map.mpr ⟨b, hb, by rw [← e, ha]⟩) n'.1
          · exact absurd (List.mem_map.mpr ⟨a, ha, by rw [e, hb]⟩) n'.1
          · exact ih n'.2 ha hb e
      rw [inj nd.2.2 hx hu e]
  nd := by rw [Ua.ch_ad]; exact S.nd
  ks := by rw [Ua.ch_keys]; exact S.ks
theorem ch_look {us : Ua} {u : Nat × Addr × List Nat} {s : Nat} (ks : (us.map (fun u => u.1)).Nodup) (hu : u ∈ us) (h1 : s < u.1) (h2 : s ∉ u.2.2) : (us.ch u.1 (u.2.2 ++ [s])).us = look1 [u.1] s us.us := by
  unfold Ua.ch Ua.us look1
  rw [List.map_map, List.map_map]
  refine List.map_congr_left fun x hx => ?_
  show ((if x.1 = u.1 then (x.1, x.2.1, u.2.2 ++ [s]) else x).1, (if x.1 = u.1 then (x.1, x.2.1, u.2.2 ++ [s]) else x).2.2) = if x.1 ∈ [u.1] ∧ s < x.1 ∧ s ∉ x.2.2 then (x.1, x.2.2 ++ [s]) else (x.1, x.2.2)
  by_cases c : x.1 = u.1
  · have := key_uniq ks hu hx c
    subst this
    rw [if_pos rfl, if_pos ⟨List.mem_cons_self, h1, h2⟩]
  · rw [if_neg c, if_neg (fun z => c (List.mem_singleton.mp z.1))]
theorem no_look {us : Ua} {u : Nat × Addr × List Nat} {s : Nat} (ks : (us.map (fun u => u.1)).Nodup) (hu : u ∈ us) (h : ¬ (s < u.1 ∧ s ∉ u.2.2)) : us.us = look1 [u.1] s us.us := by
  unfold Ua.us look1
  rw [List.map_map]
  refine List.map_congr_left fun x hx => ?_
  show (x.1, x.2.2) = if x.1 ∈ [u.1] ∧ s < x.1 ∧ s ∉ x.2.2 then (x.1, x.2.2 ++ [s]) else (x.1, x.2.2)
  rw [if_neg]
  intro z
  have := key_uniq ks hu hx (List.mem_singleton.mp z.1)
  subst this
  exact h z.2
end EW

end
section
open PySem L2 EW
local macro_rules | `(tactic| walk_at "ne") => `(tactic| first
  | assumption
  | exact Ne.symm (by assumption)
  | ((with_reducible refine' EW.RowAt.newne ?n ?h); (case n => assumption); (case h => walk_at "hp"))
  | ((with_reducible refine' Ne.symm (EW.RowAt.newne ?n ?h)); (case n => assumption); (case h => walk_at "hp"))
  | ((with_reducible refine' EW.BoxAt.newne ?n ?h); (case n => assumption); (case h => walk_at "hp"))
  | ((with_reducible refine' Ne.symm (EW.BoxAt.newne ?n ?h)); (case n => assumption); (case h => walk_at "hp")))
local macro_rules | `(tactic| walk_at "ns") => `(tactic| first
  | assumption
  | exact EW.RowAt.ne (by assumption)
  | ((with_reducible refine' EW.RowAt.notin ?n ?h); (case n => assumption); (case h => walk_at "hp")))
local macro_rules | `(tactic| walk_at "ni") => `(tactic| first
  | with_reducible exact EW.ne_mem0
  | with_reducible exact EW.dis0
  | ((with_reducible refine' EW.ne_mem1 ?h); (case h => walk_at "ne"))
  | ((with_reducible refine' EW.ne_mem2 ?h ?g); (case h => walk_at "ne"); (case g => walk_at "ne"))
  | ((with_reducible refine' EW.dis1 ?h); (case h => walk_at "ns"))
  | ((with_reducible refine' EW.dis2 ?h ?g); (case h => walk_at "ns"); (case g => walk_at "ns")))
local macro_rules | `(tactic| walk_at "hp") => `(tactic| first
  | assumption
  | ((with_reducible refine' EW.RE.mono (EW.Kp.tup ?k) ?h); (case k => assumption); (case h => walk_at "hp"))
  | ((with_reducible refine' EW.Kp.tup ?k _ _ ?h); (case k => assumption); (case h => walk_at "hp"))
  | ((with_reducible refine' EW.kp_tup ?k ?h); (case k => assumption); (case h => walk_at "hp"))
  | ((with_reducible refine' EW.Kp.keep ?k _ _ ?h ?n); (case k => assumption); (case h => walk_at "hp"); (case n => walk_at "ni"))
  | ((with_reducible refine' EW.Kp.seqL ?k ?h ?n); (case k => assumption); (case h => walk_at "hp"); (case n => walk_at "ni"))
  | ((with_reducible refine' EW.RowAt.keep ?k ?h ?n1 ?n2); (case k => assumption); (case h => walk_at "hp"); (case n1 => walk_at "ni"); (case n2 => walk_at "ni"))
  | ((with_reducible refine' EW.ScAt.keep ?k ?h ?n); (case k => assumption); (case h => walk_at "hp"); (case n => walk_at "ni"))
  | ((with_reducible refine' EW.BoxAt.keep ?k ?h ?n); (case k => assumption); (case h => walk_at "hp"); (case n => walk_at "ni"))
  | ((with_reducible refine' L2.SqL.of ?h); (case h => walk_at "hp"))
  | ((with_reducible refine' L2.SqT.of ?h); (case h => walk_at "hp")))
local macro_rules | `(tactic| walk_at "sb") => `(tactic| first
  | exact EW.sub0
  | exact EW.sub_refl
  | exact EW.sub_l
  | exact EW.sub_r)
local macro_rules | `(tactic| walk_at "kp") => `(tactic| first
  | exact EW.Kp.refl
  | assumption
  | ((with_reducible refine' EW.Kp.trans ?h (EW.Kp.mono ?k ?s)); (case k => assumption); (case s => walk_at "sb"); (case h => walk_at "kp")))
local macro_rules | `(tactic| walk_at "st") => `(tactic| first
  | with_reducible refine rd_seq ?_
  | with_reducible refine rd_next ?_
  | with_reducible refine rd_asg ?_
  | with_reducible refine rd_name ?_
  | with_reducible refine rd_ret ?_
  | with_reducible refine rd_drop ?_
  | ((with_reducible refine' rd_var ?e ?_); (case e => first | with_reducible assumption | exact rfl | assumption))
  | with_reducible refine rd_c ?_
  | with_reducible refine rd_op ?_
  | with_reducible refine rd_I0 ?_
  | with_reducible refine rd_test ?_
  | with_reducible refine rd_tB ?_
  | with_reducible refine rd_not ?_
  | with_reducible refine rd_and ?_
  | with_reducible refine rd_or ?_
  | with_reducible refine rd_ifE ?_
  | with_reducible refine rd_notV ?_
  | with_reducible refine rd_andV ?_
  | with_reducible refine rd_orV ?_
  | with_reducible refine rd_cons ?_
  | with_reducible refine EW.rd_par ?_
  | with_reducible refine EW.rd_par2 ?_
  | with_reducible refine EW.rd_parT ?_
  | with_reducible refine EW.rd_par3 ?_
  | with_reducible refine rd_nil ?_
  | with_reducible refine rd_cb ?_
  | with_reducible refine rd_call ?_
  | with_reducible refine rd_meth ?_
  | with_reducible refine rd_sub ?_
  | with_reducible refine rd_fl ?_
  | with_reducible refine rd_tup ?_
  | with_reducible refine rd_lst ?_
  | with_reducible refine rd_sl ?_
  | with_reducible refine rd_part ?_
  | with_reducible refine rd_partI ?_
  | with_reducible refine rd_nopart ?_
  | with_reducible refine rd_yes ?_
  | with_reducible refine rd_dnewK ?_
  | with_reducible refine rd_dnewT ?_
  | ((with_reducible refine' rd_isT ?h ?_); (case h => walk_at "hp"))
  | with_reducible refine rd_isI ?_
  | with_reducible refine rd_isII ?_
  | with_reducible refine rd_isIB ?_
  | ((with_reducible refine' rd_sum ?h ?_); (case h => walk_at "hp"))
  | ((with_reducible refine' rd_tail ?h ?_); (case h => walk_at "hp"))
  | ((with_reducible refine rd_newO ?_); intro _ _ _ _ _)
  | ((with_reducible refine' rd_lenS ?l ?_); (case l => exact rfl))
  | ((with_reducible refine' rd_ixS ?l ?e ?_); (case l => exact rfl); (case e => first | assumption | with_reducible exact EW.at_head | exact rfl))
  | with_reducible refine EW.ite_dT (by decide +kernel) ?_
  | with_reducible refine EW.ite_dF (by decide +kernel) ?_
  | with_reducible refine EW.ite_nT (by decide +kernel) ?_
  | with_reducible refine EW.ite_nF (by decide +kernel) ?_
  | with_reducible refine EW.iteNF ?_
  | with_reducible refine EW.iteNT ?_
  | with_reducible refine EW.iteEC ?_
  | with_reducible refine EW.iteEN ?_
  | with_reducible refine EW.iteNC ?_
  | with_reducible refine EW.iteNN ?_
  | with_reducible refine EW.rd_kget (by assumption) ?_
  | with_reducible refine EW.rd_kgx (by assumption) _ ?_
  | with_reducible refine EW.rd_ixD (by assumption) _ ?_
  | with_reducible refine EW.rd_chain ?_
  | with_reducible refine L2.iteT ?_
  | with_reducible refine L2.iteF ?_
  | with_reducible refine rd_bm ?_
  | with_reducible refine rd_bm0 ?_
  | with_reducible refine rd_sfld ?_
  | with_reducible refine rd_make ?_
  | ((with_reducible refine' rd_bmL ?s ?_); (case s => walk_at "hp"))
  | ((with_reducible refine' rd_bm0L ?s ?_); (case s => walk_at "hp"))
  | ((with_reducible refine' rd_mex ?s ?l ?_); (case s => walk_at "hp"); (case l => assumption))
  | with_reducible refine rd_lc ?_
  | with_reducible refine rd_for ?_
  | with_reducible refine rd_il ?_
  | with_reducible refine rd_it ?_
  | with_reducible refine rd_ir ?_
  | with_reducible refine rd_dput ?_
  | with_reducible refine rd_dget ?_
  | ((with_reducible refine' rd_ilx ?s ?_); (case s => walk_at "hp"))
  | ((with_reducible refine' rd_itx ?s ?_); (case s => walk_at "hp"))
  | ((with_reducible refine' rd_getK ?s ?e ?_); (case s => walk_at "hp"); (case e => assumption))
  | ((with_reducible refine rd_newT rfl ?_); intro _ _ _ _ _)
  | ((with_reducible refine rd_newL rfl ?_); intro _ _ _ _ _)
  | ((with_reducible refine' rd_taken ?a ?b ?c ?_); (case a => walk_at "hp"); (case b => first | omega | decide); (case c => first | omega | decide); intro _ _ _ _ _)
  | ((with_reducible refine' rd_neE ?a ?b ?_); (case a => walk_at "hp"); (case b => walk_at "hp"))
  | ((with_reducible refine' rd_eqE ?a ?b ?_); (case a => walk_at "hp"); (case b => walk_at "hp"))
  | with_reducible refine rd_eq rfl ?_
  | with_reducible refine rd_ne rfl ?_
  | with_reducible refine rd_bl ?_
  | ((with_reducible refine rd_I ?c ?_); (case c => first | assumption | omega | decide | (exact Or.inl ⟨by omega, by omega⟩) | (exact ⟨by omega, by omega⟩) | (exact ⟨by decide, by decide, by decide⟩)))
  | refine Or.inl ⟨_, rfl, ?_⟩
  | refine Or.inr ⟨_, rfl, ?_⟩
  | ((with_reducible refine' rd_lenL ?s ?_); (case s => walk_at "hp"))
  | ((with_reducible refine' rd_lenT ?s ?_); (case s => walk_at "hp"))
  | ((with_reducible refine' rd_ixL ?s ?e ?_); (case s => walk_at "hp"); (case e => first | assumption | with_reducible exact EW.at_head | exact rfl))
  | ((with_reducible refine' rd_ixT ?s ?e ?_); (case s => walk_at "hp"); (case e => first | assumption | with_reducible exact EW.at_head | exact rfl))
  | ((with_reducible refine' rd_flx ?s ?c ?n ?l ?_); (case s => walk_at "hp"); (case c => assumption); (case n => assumption); (case l => assumption)))
local macro_rules | `(tactic| walk_at "go") => `(tactic| repeat (walk_at "st"))
local macro_rules | `(tactic| walk_at "gi") => `(tactic| repeat (first | with_reducible refine rd_if ?_ | walk_at "st"))
namespace EW
open PySem L2
section
variable {K : PySem.W.Frag} {a : Addr} {xs : List V} {g : TG} {tt : TT} {te : TE} {vs : List Nat} {σ : L2.St} {H1 : Hp} {D : Addr} {Qd : Hp → Prop}
def LcG (xs : List V) (D : Addr) (J : List V → List V → Hp → Prop) (i : Nat) (H : Hp) : Prop :=
  ∃ l r acc, xs = l ++ r ∧ l.length = i ∧ H D = some (.lst acc) ∧ acc.length ≤ i ∧ J l acc H
/-- a comprehension over a tuple, whose turns keep J; J says all -/
theorem lc_G (J : List V → List V → Hp → Prop) (mono : ∀ l acc H H', Kp [D] H H' → J l acc H → J l acc H') (hD : H1 D = none) (hS : ∀ l acc H, J l acc H → H a = some (.tup xs)) (hlen : xs.length < 1000000) (h0 : J [] [] H1)
    (hs : ∀ l x r acc H, xs = l ++ x :: r → J l acc H → acc.length ≤ l.length → H D = some (.lst acc) → ∀ (Qy : VK) (Qn : Hp → Prop), (∀ y H4, H4 D = some (.lst acc) → J (l ++ [x]) (acc ++ [y]) H4 → Qy y H4) → (∀ H3, H3 D = some (.lst acc) → J (l ++ [x]) acc H3 → Qn H3) →
      g x (wipe σ vs) H fun σ2 H2 => wipe σ2 vs = wipe σ vs ∧ tt σ2 H2 fun b H3 => if b = true then te σ2 H3 Qy else Qn H3)
    (hd : ∀ acc H, J xs acc H → H D = some (.lst acc) → acc.length ≤ xs.length → Qd H) :
    ∃ W : Nat → Nat → Hp → Prop, (∃ m, W 0 m (upd H1 D (.lst []))) ∧ ∀ i m H, W i m H → ((Itt K a).stop i H ∧ Qd H) ∨ ((Itt K a).go i H ∧ ∃ Nx : Hp → Prop, (∀ H', Nx H' → ∃ m', m' < m ∧ W (i + 1) m' H') ∧
      ∀ x H', (Itt K a).yld i H x H' → g x (wipe σ vs) H' fun σ2 H2 => wipe σ2 vs = wipe σ vs ∧ tt σ2 H2 fun b H3 => if b = true then te σ2 H3 fun y H4 => ∃ acc, H4 D = some (.lst acc) ∧ acc.length < sizeLine ∧ Nx (upd H4 D (.lst (acc ++ [y]))) else Nx H3) := by
  refine lc_tup (xs := xs) (LcG xs D J) ⟨[], xs, [], rfl, rfl, upd_same, Nat.le_refl _, mono _ _ _ _ (Kp.new hD) h0⟩ (fun i H _ h => ?_) (fun i x H hi h => ?_) fun H h => ?_
  · obtain ⟨l, r, acc, e, hl, hacc, hle, hJ⟩ := h
    exact SqT.of (hS _ _ _ hJ)
  · obtain ⟨l, r, acc, e, hl, hacc, hle, hJ⟩ := h
    have hb : i < xs.length := (List.getElem?_eq_some_iff.mp hi).1
    obtain ⟨r', rfl⟩ : ∃ r', r = x :: r' := by
      subst e
      rw [List.getElem?_append_right (by omega)] at hi
      cases r with
      | nil => simp at hi
      | cons z r' =>
        rw [hl, Nat.sub_self] at hi
        exact ⟨r', by rw [Option.some.inj hi]⟩
    have e2 : xs = (l ++ [x]) ++ r' := by rw [e]; simp
    refine hs l x r' acc H e hJ (by omega) hacc _ _ (fun y H4 h4 j4 => ?_) (fun H3 h3 j3 => ?_)
    · exact ⟨acc, h4, sz_lt (by omega), l ++ [x], r', acc ++ [y], e2, by simp [hl], upd_same, by simp; omega, mono _ _ _ _ (Kp.put h4 (fun _ z => nomatch z) List.mem_cons_self) j4⟩
    · exact ⟨l ++ [x], r', acc, e2, by simp [hl], h3, by omega, j3⟩
  · obtain ⟨l, r, acc, e, hl, hacc, hle, hJ⟩ := h
    have : r = [] := by
      have := congrArg List.length e
      rw [List.length_append] at this
      exact List.length_eq_zero_iff.mp (by omega)
    subst this
    rw [List.append_nil] at e
    subst e
    exact hd acc H hJ hacc hle
end
theorem take_at {α : Type} : ∀ {l : List α} {i : Nat} {x : α}, l[i]? = some x → l.take (i + 1) = l.take i ++ [x]
  | [], _, _, h => by cases h
  | y :: l, 0, x, h => by
    have : y = x := Option.some.inj h
    rw [this] <;> rfl
  | y :: l, i + 1, x, h => by
    rw [List.take_succ_cons, take_at (l := l) (i := i) h] <;> rfl
theorem nd_lt : ∀ {n : Nat} {l : List Nat}, l.Nodup → (∀ x ∈ l, x < n) → l.length ≤ n
  | 0, [], _, _ => Nat.le_refl _
  | 0, x :: _, _, h => absurd (h x List.mem_cons_self) (Nat.not_lt_zero _)
  | n + 1, l, nd, h => by
    have h1 := nd_lt (n := n) (l := l.erase n) (nd.erase n) fun x hx => by
      have h2 := nd.mem_erase_iff.mp hx
      have h3 := h x h2.2
      have h4 := h2.1
      omega
    rw [List.length_erase] at h1
    split at h1 <;> omega
theorem word_num {e : E} (h : ∀ m, e ≠ .num m) : ¬ V.str e.word = V.str "num" := by
  cases e with
  | num m => exact absurd rfl (h m)
  | _ => simp only [E.word] <;> decide +kernel
theorem word_name {e : E} (h : ∀ m, e ≠ .name m) : ¬ V.str e.word = V.str "name" := by
  cases e with
  | name m => exact absurd rfl (h m)
  | _ => simp only [E.word] <;> decide +kernel
theorem word_let {e : E} (h : ∀ m a b, e ≠ .lt m a b) : ¬ V.str e.word = V.str "let" := by
  cases e with
  | lt m a b => exact absurd rfl (h m a b)
  | _ => simp only [E.word] <;> decide +kernel
theorem word_fun {e : E} (h : ∀ m b, e ≠ .fn m b) : ¬ V.str e.word = V.str "fun" := by
  cases e with
  | fn m b => exact absurd rfl (h m b)
  | _ => simp only [E.word] <;> decide +kernel
/-- the words alone with expressions -/
def E.flat : E → Prop
  | .plus _ _ => True
  | .call _ _ => True
  | .ite _ _ _ => True
  | _ => False
theorem RE.all {H : Hp} : ∀ {e : E} {v : V}, e.flat → RE H e v → ∃ t vs, v = .ref t ∧ H t = some (.tup (.str e.word :: vs)) ∧ REs H e.kids vs ∧ vs ≠ []
  | .plus _ _, _, _, ⟨t, x, y, e, h, a, b⟩ => ⟨t, [x, y], e, h, ⟨a, b, trivial⟩, List.cons_ne_nil _ _⟩
  | .call _ _, _, _, ⟨t, x, y, e, h, a, b⟩ => ⟨t, [x, y], e, h, ⟨a, b, trivial⟩, List.cons_ne_nil _ _⟩
  | .ite _ _ _, _, _, ⟨t, z, x, y, e, h, c, a, b⟩ => ⟨t, [z, x, y], e, h, ⟨c, a, b, trivial⟩, List.cons_ne_nil _ _⟩
theorem RE.back {H : Hp} {t : Addr} {vs : List V} {sc : Sc} {n : Nat} : ∀ {e : E}, e.flat → H t = some (.tup (.str e.word :: vs)) → REs H (sitL e.kids sc n) vs → RE H (sit e sc n) (.ref t)
  | .plus _ _, _, h, r => by
    match vs, r with
    | [x, y], r => exact ⟨t, x, y, rfl, h, r.1, r.2.1⟩
  | .call _ _, _, h, r => by
    match vs, r with
    | [x, y], r => exact ⟨t, x, y, rfl, h, r.1, r.2.1⟩
  | .ite _ _ _, _, h, r => by
    match vs, r with
    | [z, x, y], r => exact ⟨t, z, x, y, rfl, h, r.1, r.2.1, r.2.2.1⟩
theorem own_flat {o : Option Nat} {n : Nat} : ∀ {e : E}, e.flat → own e o n = ownL e.kids o n
  | .plus _ _, _ => by simp [own, ownL, E.kids]
  | .call _ _, _ => by simp [own, ownL, E.kids]
  | .ite _ _ _, _ => by simp [own, ownL, E.kids, Nat.add_assoc]
theorem funs_flat {n : Nat} : ∀ {e : E}, e.flat → funs e n = funsL e.kids n
  | .plus _ _, _ => by simp [funs, funsL, E.kids]
  | .call _ _, _ => by simp [funs, funsL, E.kids]
  | .ite _ _ _, _ => by simp [funs, funsL, E.kids, Nat.add_assoc]
theorem mU_flat {sc : Sc} {n : Nat} {ar : List Nat} {us : Us} : ∀ {e : E}, e.flat → mU e sc n ar us = mUL e.kids sc n ar us
  | .plus _ _, _ => by simp [mU, mUL, E.kids]
  | .call _ _, _ => by simp [mU, mUL, E.kids]
  | .ite _ _ _, _ => by simp [mU, mUL, E.kids, Nat.add_assoc]
theorem ns_flat : ∀ {e : E}, e.flat → e.ns = nsL e.kids
  | .plus _ _, _ => by simp [E.ns, nsL, E.kids]
  | .call _ _, _ => by simp [E.ns, nsL, E.kids]
  | .ite _ _ _, _ => by simp [E.ns, nsL, E.kids]
theorem sitL_length : ∀ (l : List E) (c : Sc) (n : Nat), (sitL l c n).length = l.length
  | [], _, _ => rfl
  | _ :: l, c, n => congrArg (· + 1) (sitL_length l c _)
theorem rd_newSite1 {C : Addr} {H : Hp} {p dx : Addr} {fl : List (Str × V)} {lo lf du : Addr} {ow : List (Option Nat)} {fs : List Nat} {us : Ua} {o : Option Nat} {Q : VK} {EE : XK} (S : SAt H C p dx fl lo lf du ow fs us) (l1 : ow.length < 900) (l2 : fs.length < 900) (l3 : us.length < 900)
    (hn : ow.length ∉ us.map (fun u => u.1)) (q : ∀ (a : Addr) H', H a = none → SAt H' C p dx fl lo lf du (ow ++ [some ow.length]) (fs ++ [ow.length]) (us ++ [(ow.length, a, [])]) → Kp (sM lo lf du us) H H' → Q (nV ow.length) H') :
    spNewSite C (.ref p :: ([oV o, .bl true] ++ [])) H Q EE := ⟨p, dx, fl, lo, lf, du, ow, fs, us, o, true, rfl, S, l1, l2, l3, fun _ => hn, fun z => (nomatch z), fun _ => q⟩
theorem rd_newSite0 {C : Addr} {H : Hp} {p dx : Addr} {fl : List (Str × V)} {lo lf du : Addr} {ow : List (Option Nat)} {fs : List Nat} {us : Ua} {o : Option Nat} {Q : VK} {EE : XK} (S : SAt H C p dx fl lo lf du ow fs us) (l1 : ow.length < 900) (l2 : fs.length < 900) (l3 : us.length < 900)
    (q : ∀ H', SAt H' C p dx fl lo lf du (ow ++ [o]) fs us → Kp (sM lo lf du us) H H' → Q (nV ow.length) H') :
    spNewSite C (.ref p :: ([oV o, .bl false] ++ [])) H Q EE := ⟨p, dx, fl, lo, lf, du, ow, fs, us, o, false, rfl, S, l1, l2, l3, fun z => (nomatch z), fun _ => q, fun z => (nomatch z)⟩
theorem AdNew.snoc {H : Hp} {us : Ua} {n : Nat} {a : Addr} {l : List Nat} (h : H a = none) : AdNew H us (us ++ [(n, a, l)]) := fun x hx => by
  have e : Ua.ad (us ++ [(n, a, l)]) = us.ad ++ [a] := by unfold Ua.ad; rw [List.map_append] <;> rfl
  rw [e] at hx
  rcases List.mem_append.mp hx with z | z
  · exact .inl z
  · rw [List.mem_singleton.mp z]; exact .inr h
theorem Good.snoc {us : Us} (h : Good us) (n : Nat) : Good (us ++ [(n, [])]) := fun u hu => by
  rcases List.mem_append.mp hu with hu | hu
  · exact h u hu
  · rw [List.mem_singleton.mp hu]
    exact ⟨List.nodup_nil, fun _ z => nomatch z⟩
theorem Ua.us_snoc (us : Ua) (n : Nat) (a : Addr) (l : List Nat) : Ua.us (us ++ [(n, a, l)]) = us.us ++ [(n, l)] := by unfold Ua.us; rw [List.map_append]; rfl
theorem hB_set {sc : Sc} {B : List Nat} (hB : ∀ k ∈ B, ∃ s, sc k = some s) (m n : Nat) : ∀ k ∈ B ++ [m], ∃ s, sc.set m n k = some s := fun k hk => by
  unfold Sc.set
  by_cases e : k = m
  · exact ⟨n, if_pos e⟩
  · rw [if_neg e]
    rcases List.mem_append.mp hk with z | z
    · exact hB k z
    · exact absurd (List.mem_singleton.mp z) e
theorem nsL_mid : ∀ (l : List E) (e : E) (r : List E), nsL (l ++ e :: r) = nsL l + e.ns + nsL r
  | [], e, r => by simp [nsL]
  | x :: l, e, r => by simp [nsL, nsL_mid l e r, Nat.add_assoc]
theorem wf_flat {B : List Nat} : ∀ {e k : E}, e.flat → e.Wf B → k ∈ e.kids → k.Wf B
  | .plus _ _, _, _, w, h => by
    simp only [E.kids, List.mem_cons, List.not_mem_nil, or_false] at h
    rcases h with rfl | rfl
    · exact w.1
    · exact w.2
  | .call _ _, _, _, w, h => by
    simp only [E.kids, List.mem_cons, List.not_mem_nil, or_false] at h
    rcases h with rfl | rfl
    · exact w.1
    · exact w.2
  | .ite _ _ _, _, _, w, h => by
    simp only [E.kids, List.mem_cons, List.not_mem_nil, or_false] at h
    rcases h with rfl | rfl | rfl
    · exact w.1
    · exact w.2.1
    · exact w.2.2
/-- t[:1] of a tuple with more than one item -/
theorem rd_head1 {K : PySem.W.Frag} {H : Hp} {p : Addr} {x : V} {xs : List V} {Q : VK} (h : H p = some (.tup (x :: xs))) (hx : xs ≠ []) (q : NewO (.tup [x]) H Q) : rSlA K (.ref p) none (some 1) H Q := by
  have e1 : HT.sIx (x :: xs).length (x :: xs).length (some 1) = 1 := by
    have q1 : HT.sIx (x :: xs).length (x :: xs).length (some ((1 : Nat) : Int)) = min 1 (x :: xs).length := HT.sIx_nat _ _ _
    rw [List.length_cons] at q1 ⊢
    exact q1.trans (by omega)
  refine ⟨p, x :: xs, rfl, SqT.of h, fun c => ?_, fun _ => ?_⟩
  · have c2 := c.2
    rw [e1] at c2
    cases xs with
    | nil => exact absurd rfl hx
    | cons y ys => simp at c2
  · have e : cutV (x :: xs) none (some 1) = [x] := by
      unfold cutV
      rw [e1]
      rfl
    rw [e]
    exact q
theorem rd_then {ta : TE} {k : V → Hp → VK → Prop} {σ : L2.St} {H : Hp} {Q : VK} (h : ta σ H fun x H1 => k x H1 Q) : tThen ta k σ H Q := h
theorem rd_kTup {K : PySem.W.Frag} {H : Hp} {p : Addr} {xs : List V} {Q : VK} (s : SqL K H p xs) (q : NewO (.tup xs) H Q) : kTup K (.ref p) H Q := .inl ⟨p, xs, rfl, s, q⟩
theorem rd_catA {K : PySem.W.Frag} {H : Hp} {a b : Addr} {xs ys : List V} {Q : VK} (ha : H a = some (.tup xs)) (hb : H b = some (.tup ys)) (hx : xs ≠ []) (hy : ys ≠ []) (l : xs.length + ys.length ≤ 1000000) (q : NewO (.tup (xs ++ ys)) H Q) : rCatA K (.ref a) (.ref b) H Q :=
  ⟨a, b, xs, ys, rfl, rfl, SqT.of ha, SqT.of hb, Nat.le_trans l (by decide), fun z => absurd z hx, fun _ z => absurd z hy, fun _ _ => q⟩
theorem SPre.keepD {H H' : Hp} {C p dx : Addr} {fl : List (Str × V)} {lo lf du : Addr} {ow : List (Option Nat)} {fs : List Nat} {us : Ua} {c : Addr} {sc : Sc} {L : Nat} {ar : Addr} {arl : List Nat} {D : Addr} (h : SPre H C p dx fl lo lf du ow fs us c sc L ar arl) (k : Kp [D] H H')
    (n1 : D ≠ p) (n2 : D ∉ sM lo lf du us) (n3 : c ≠ D) (n4 : ar ≠ D) : SPre H' C p dx fl lo lf du ow fs us c sc L ar arl :=
  { h with S := h.S.keep k (fun m hm => by rw [List.mem_singleton.mp hm]; exact ⟨n1, n2⟩), hc := h.hc.keep k (ne_mem1 n3), ha := k.keep _ _ h.ha (ne_mem1 n4) }
section
variable {P : Program} {w : World} {K : PySem.W.Frag} {mg : Str → Option Value} {base : Heap} {a_SHAPES C_Sites : Addr}
theorem ok_sited_step {f : Addr} {fd : FuncData} (A : AtM K C_Sites "sited" "Sites.sited" s_Sites_sited ["self", "e", "scope", "owner", "around"] f fd) (T : TxtP K w mg a_SHAPES C_Sites) {n : Nat}
    (c_with_name : Has P w K mg base "with_name" ["scope", "name", "site"] 1 spWithName) (c_Sites_new_site : HasM P w K mg base C_Sites "new_site" ["self", "owner", "is_fun"] 1 (spNewSite C_Sites))
    (c_Sites_sited : HasM P w K mg base C_Sites "sited" ["self", "e", "scope", "owner", "around"] (1 + n) (spSited C_Sites n)) : HasM P w K mg base C_Sites "sited" ["self", "e", "scope", "owner", "around"] (1 + n + 1) (spSited C_Sites (n + 1)) := by
  obtain ⟨f_with_name, fd_with_name, G_with_name, m_with_name, k_with_name, b_with_name⟩ := c_with_name
  obtain ⟨f_Sites_new_site, fd_Sites_new_site, G_Sites_new_site, me_Sites_new_site, b_Sites_new_site⟩ := c_Sites_new_site
  obtain ⟨f_Sites_sited, fd_Sites_sited, G_Sites_sited, me_Sites_sited, b_Sites_sited⟩ := c_Sites_sited
  refine ⟨f, fd, A.F.ok sc_Sites_sited (fun vs H Q EE h => ?_) (fun cdv A outer s H vs Q EE hr h => ?_), A.m, A.b⟩
  · obtain ⟨_, _, _, _, _, _, _, _, _, _, _, _, _, _, _, _, _, _, rfl, _⟩ := h
    rfl
  obtain ⟨p, dx, fl, lo, lf, du, ow, fs, us, e, v, c, sc, L, o, ar, arl, B, rfl, h, hre, hw, hB, hL, hA, hd, hz, q⟩ := h
  have hu := hu_of hr
  have cl := T.cl_Sites
  have n1 := T.n_owners
  have n2 := T.n_funs
  have n3 := T.n_used
  obtain ⟨fo, ff, fU, m1, m2, m3, m4⟩ := h.S.fl
  have hob := h.S.ob
  have har := h.ha
  obtain ⟨kvs, hc, hkl, hkv⟩ := id h.hc
  refine ⟨_, (pss_cons (ps_if (pt_cmpR op_eq (pe_ix (w_ixT (K := K) rfl) (pv 1) pe_int (fun _ _ => rfl)) pe_str (nomark _))
        (pss_one (ps_ret (pv 1)))
        pss_nil)
      (pss_cons (ps_if (pt_cmpR op_eq (pe_ix (w_ixT (K := K) rfl) (pv 1) pe_int (fun _ _ => rfl)) pe_str (nomark _))
        (pss_cons (ps_for PassesOwn.never rfl (w_piL (K := K) rfl (pv 4)) (pg_name (i := 5) sc_Sites_sited.nd rfl (Or.inl rfl))
          (pss_one (ps_if (PW.pt (pw_and (pt_cmpR op_lt (pe_dget hu (pv 2) (pe_ix (w_ixT (K := K) rfl) (pv 1) pe_int (fun _ _ => rfl)) (fun _ _ => rfl)) (pv 5) (nomark _)) (pw_and1 (pt_cmpR (w_notIn (K := K) rfl) (pe_dget hu (pv 2) (pe_ix (w_ixT (K := K) rfl) (pv 1) pe_int (fun _ _ => rfl)) (fun _ _ => rfl)) (pe_dget hu (w_fld (K := K) rfl (pv 0) rfl) (pv 5) (fun _ _ => rfl)) rfl))))
            (pss_one (ps_expr (pe_bm PySem.F.plainAttrs_list PySem.F.slot_list_append PySem.F.type_list_append mt_append (pe_dget hu (w_fld (K := K) rfl (pv 0) rfl) (pv 5) (fun _ _ => rfl)) (pa_cons (pe_dget hu (pv 2) (pe_ix (w_ixT (K := K) rfl) (pv 1) pe_int (fun _ _ => rfl)) (fun _ _ => rfl)) pa_nil))))
            pss_nil)))
        (pss_one (ps_ret (pe_tup (pa_cons pe_str (pa_cons (pe_dget hu (pv 2) (pe_ix (w_ixT (K := K) rfl) (pv 1) pe_int (fun _ _ => rfl)) (fun _ _ => rfl)) pa_nil))))))
        pss_nil)
      (pss_cons (ps_if (pt_cmpR op_eq (pe_ix (w_ixT (K := K) rfl) (pv 1) pe_int (fun _ _ => rfl)) pe_str (nomark _))
        (pss_cons (ps_set (i := 6) sc_Sites_sited.nd rfl (Or.inl rfl) (pe_meth (pv 0) T.cl_Sites me_Sites_new_site G_Sites_new_site (hr.mono (by first | decide | omega)) b_Sites_new_site .nil pass0 (pa_cons (pv 3) (pa_cons pe_bl pa_nil))))
        (pss_cons (ps_set (i := 7) sc_Sites_sited.nd rfl (Or.inl rfl) (pe_meth (pv 0) T.cl_Sites me_Sites_sited G_Sites_sited (hr.mono (by first | decide | omega)) b_Sites_sited .nil pass0 (pa_cons (pe_ix (w_ixT (K := K) rfl) (pv 1) pe_int (fun _ _ => rfl)) (pa_cons (pv 2) (pa_cons (pv 3) (pa_cons (pv 4) pa_nil))))))
        (pss_one (ps_ret (pe_tup (pa_cons pe_str (pa_cons (pv 6) (pa_cons (pv 7) (pa_cons (pe_meth (pv 0) T.cl_Sites me_Sites_sited G_Sites_sited (hr.mono (by first | decide | omega)) b_Sites_sited .nil pass0 (pa_cons (pe_ix (w_ixT (K := K) rfl) (pv 1) pe_int (fun _ _ => rfl)) (pa_cons (pe_call G_with_name (hr.mono (by first | decide | omega)) (by rfl) m_with_name k_with_name b_with_name .nil pass0 (pa_cons (pv 2) (pa_cons (pe_ix (w_ixT (K := K) rfl) (pv 1) pe_int (fun _ _ => rfl)) (pa_cons (pv 6) pa_nil)))) (pa_cons (pv 3) (pa_cons (pv 4) pa_nil))))) pa_nil)))))))))
        pss_nil)
      (pss_cons (ps_if (pt_cmpR op_eq (pe_ix (w_ixT (K := K) rfl) (pv 1) pe_int (fun _ _ => rfl)) pe_str (nomark _))
        (pss_cons (ps_set (i := 6) sc_Sites_sited.nd rfl (Or.inl rfl) (pe_meth (pv 0) T.cl_Sites me_Sites_new_site G_Sites_new_site (hr.mono (by first | decide | omega)) b_Sites_new_site .nil pass0 (pa_cons (pv 3) (pa_cons pe_bl pa_nil))))
        (pss_one (ps_ret (pe_tup (pa_cons pe_str (pa_cons (pv 6) (pa_cons (pe_meth (pv 0) T.cl_Sites me_Sites_sited G_Sites_sited (hr.mono (by first | decide | omega)) b_Sites_sited .nil pass0 (pa_cons (pe_ix (w_ixT (K := K) rfl) (pv 1) pe_int (fun _ _ => rfl)) (pa_cons (pe_call G_with_name (hr.mono (by first | decide | omega)) (by rfl) m_with_name k_with_name b_with_name .nil pass0 (pa_cons (pv 2) (pa_cons (pe_ix (w_ixT (K := K) rfl) (pv 1) pe_int (fun _ _ => rfl)) (pa_cons (pv 6) pa_nil)))) (pa_cons (pv 6) (pa_cons (pe_op op_cat (pv 4) (pe_lst (pa_cons (pv 6) pa_nil))) pa_nil))))) pa_nil)))))))
        pss_nil)
      (pss_one (ps_ret (pe_op (w_catT (K := K) rfl) (pe_slice (w_slT (K := K) rfl) (pv 1) po_none (po_some pe_int)) (w_tupleOf (K := K) rfl (by rfl) T.z_tuple (pe_lc (own := [("part", 8)]) (g := (gName 8)) (tt := tYes) rfl sc_Sites_sited.nd (w_piT (K := K) rfl (pe_slice (w_slT (K := K) rfl) (pv 1) (po_some pe_int) po_none)) (blkOk_by (own := [("part", 8)]) (N := N_Sites_sited) (sc := defScope s_Sites_sited) (by decide +kernel)) (fun _ _ _ _ _ => (pg_name (i := 8) sc_Sites_sited.nd rfl (Or.inl rfl))) (fun _ _ _ _ _ => pts_nil) (fun _ _ _ _ _ => (pe_meth (pv 0) T.cl_Sites me_Sites_sited G_Sites_sited (hr.mono (by first | decide | omega)) b_Sites_sited .nil pass0 (pa_cons (pv 8) (pa_cons (pv 2) (pa_cons (pv 3) (pa_cons (pv 4) pa_nil))))))) rfl)))))))), ?_⟩
  refine at_st (σ' := [some (.ref p), some v, some (.ref c), some (oV o), some (.ref ar), none, none, none, none]) rfl ?_
  obtain ⟨t, zs, rfl, ht, _⟩ := hre.items
  walk_at "st"
  refine rd_ifJ (fun H' => H = H' ∧ ∀ m, e ≠ .num m) ?_ fun Z hZ => ?_
  · rintro _ ⟨rfl, e1⟩
    walk_at "st"
    walk_at "st"
    refine rd_ifJ (fun H' => H = H' ∧ ∀ m, e ≠ .name m) ?_ fun Z hZ => ?_
    · rintro _ ⟨rfl, e2⟩
      walk_at "st"
      walk_at "st"
      refine rd_ifJ (fun H' => H = H' ∧ ∀ m a b, e ≠ .lt m a b) ?_ fun Z hZ => ?_
      · rintro _ ⟨rfl, e3⟩
        walk_at "st"
        walk_at "st"
        refine rd_ifJ (fun H' => H = H' ∧ ∀ m b, e ≠ .fn m b) ?_ fun Z hZ => ?_
        · rintro _ ⟨rfl, e4⟩
          have hf : e.flat := by
            cases e with
            | num m => exact absurd rfl (e1 m)
            | name m => exact absurd rfl (e2 m)
            | lt m a b => exact absurd rfl (e3 m a b)
            | fn m b => exact absurd rfl (e4 m b)
            | _ => trivial
          obtain ⟨t', vs, ev, ht2, hks, hvn⟩ := hre.all hf
          cases ev
          walk_at "st"
          walk_at "st"
          walk_at "go"
          refine rd_head1 ht2 hvn (rd_newO fun ph H1 nh k1 h1 => ?_)
          refine rd_then ?_
          have ht3 := k1.tup _ _ ht2
          walk_at "st"
          walk_at "st"
          walk_at "st"
          walk_at "st"
          walk_at "st"
          walk_at "st"
          walk_at "st"
          walk_at "st"
          refine rd_tail ht3 (rd_newO fun pt H2 nt k2 h2 => ?_)
          refine rd_itx h2 ?_
          intro D hD
          have h02 := h.keep0 (k1.trans k2)
          have hD0 : H D = none := k1.free (k2.free hD)
          have hvl : vs.length ≤ 3 := by rw [← hks.length]; cases e <;> simp [E.kids]
          refine lc_G (fun l acc H' => ∃ us', SPre H' C_Sites p dx fl lo lf du (ow ++ ownL (e.kids.take l.length) o ow.length) (fs ++ funsL (e.kids.take l.length) ow.length) us' c sc L ar arl ∧ us'.us = mUL (e.kids.take l.length) sc ow.length arl us.us ∧
            AdNew H us us' ∧ D ∉ sM lo lf du us' ∧ REs H' (sitL (e.kids.take l.length) sc ow.length) acc ∧ Kp (sM lo lf du us) H H' ∧ H' pt = some (.tup vs) ∧ H' ph = some (.tup [.str e.word])) ?_ hD (fun _ _ _ j => j.choose_spec.2.2.2.2.2.2.1) (by omega) ?_ ?_ ?_
          · intro l acc Ha Hb kk ⟨us', j1, j2, j3, j4, j5, j6, j7, j8⟩
            have nDp : D ≠ p := (ne_of_none h.S.ob hD0).symm
            have nDc : c ≠ D := ne_of_none hc hD0
            have nDa : ar ≠ D := ne_of_none h.ha hD0
            exact ⟨us', j1.keepD kk nDp j4 nDc nDa, j2, j3, j4, j5.mono kk.tup, j6.chg hD0 (kk.mono fun b hb => by rw [List.mem_singleton.mp hb]; exact List.mem_cons_self), kk.tup _ _ j7, kk.tup _ _ j8⟩
          · exact ⟨us, by simpa [ownL, funsL] using h02, rfl, AdNew.refl, sM_fresh h.S hD0, trivial, (k1.trans k2).up, h2, k2.tup _ _ h1⟩
          · intro l x r acc Hc el ⟨us', j1, j2, j3, j4, j5, j6, j7, j8⟩ hal hDc Qy Qn qy qn
            rw [el] at hks
            obtain ⟨kl, k', kr, f1, f2, f3⟩ := hks.split
            have ft : e.kids.take l.length = kl := by rw [f1, ← f2]; simp
            have ft2 : e.kids.take (l ++ [x]).length = kl ++ [k'] := by rw [f1, List.length_append, ← f2]; exact take_sn _ _ _
            rw [ft] at j1 j2 j5
            have hkk : k' ∈ e.kids := by rw [f1]; simp
            have hnsk : e.ns = nsL kl + k'.ns + nsL kr := by rw [ns_flat hf, f1, nsL_mid]
            have hdk := E.kids_depth hkk
            have hlen : (ow ++ ownL kl o ow.length).length = ow.length + nsL kl := by rw [List.length_append, ownL_length]
            refine rd_name ⟨rfl, rd_yes ?_⟩
            walk_at "st"
            walk_at "st"
            walk_at "st"
            refine rd_mex j1.S.ob j1.S.fl.m2 ?_
            walk_at "go"
            refine rd_sited (B := B) j1 (f3.mono j6.tup) (wf_flat hf hw hkk) hB (by omega) (by omega) (by omega) (by omega) fun v' H4 us4 S4 e4 a4 r4 k4 => ?_
            have e5 : own k' o (ow ++ ownL kl o ow.length).length = own k' o (ow.length + nsL kl) := by rw [hlen]
            refine qy v' H4 (k4.keep _ _ hDc j4) ?_
            rw [ft2, ownL_snoc, funsL_snoc, mUL_snoc, sitL_snoc]
            rw [hlen] at S4 e4 r4
            have kk := kp_comp j6 j3 k4
            have n4 := j1.next (by rw [hlen]; exact S4) (by rw [hlen]; exact e4) a4 k4
            rw [hlen] at n4
            refine ⟨us4, ?_, by rw [e4, j2], j3.trans j6 a4, notin_new hDc j4 a4, (j5.mono k4.tup).snoc r4, kk, k4.tup _ _ j7, k4.tup _ _ j8⟩
            rw [← List.append_assoc, ← List.append_assoc]
            exact n4
          · rintro acc Hc ⟨us', j1, j2, j3, j4, j5, j6, j7, j8⟩ hDc hal
            have ft : e.kids.take vs.length = e.kids := by rw [← hks.length, List.take_length]
            rw [ft] at j1 j2 j5
            refine rd_kTup (SqL.of hDc) (rd_newO fun pk H5 nk k5 h5 => ?_)
            have hne : acc ≠ [] := fun z => hvn (List.length_eq_zero_iff.mp (by rw [← hks.length, ← sitL_length e.kids sc ow.length, j5.length, z]; rfl))
            refine rd_catA (k5.tup _ _ j8) h5 (List.cons_ne_nil _ _) hne (by show 1 + acc.length ≤ _; omega) (rd_newO fun pz H6 nz k6 h6 => ?_)
            refine q _ H6 us' (by rw [own_flat hf, funs_flat hf]; exact (j1.S.keep0 k5).keep0 k6) (by rw [mU_flat hf]; exact j2) j3 (RE.back hf h6 ((j5.mono k5.tup).mono k6.tup)) (j6.trans (k5.trans k6).up)
        · walk_at "go"
          cases e with
          | fn m b =>
            refine ite_dT rfl ?_
            obtain ⟨t', y, ev, ht2, rb⟩ := hre
            cases ev
            have hkey : ow.length ∉ us.map (fun u => u.1) := fun z => by
              rw [← Ua.us_keys] at z
              have := h.key _ z
              omega
            have hns : (E.fn m b).ns = b.ns + 1 := by simp [E.ns]; try omega
            have hdp : (E.fn m b).depth = b.depth + 1 := by simp [E.depth]; try omega
            walk_at "go"
            refine rd_newSite1 h.S (by omega) (by have := h.l1; omega) (by have := h.l2; omega) hkey fun a H1 na S1 k1 => ?_
            have hob1 := S1.ob
            walk_at "go"
            refine rd_withName (h.hc.keep k1 h.cM) (by omega) fun r H2 nr k2 hr2 => ?_
            walk_at "go"
            rename_i al H3 nal k3 hal3
            have har3 : H3 ar = some (.lst (arl.map nV)) := k3.keep _ _ (k2.keep _ _ (k1.keep _ _ har h.aM) ne_mem0) ne_mem0
            refine rd_cat har3 hal3 (by rw [List.length_map]; show arl.length + 1 ≤ _; omega) (rd_newO fun ar4 H4 nar k4 har4 => ?_)
            have k14 : Kp [] H1 H4 := k2.trans (k3.trans k4)
            have hlen : (ow ++ [some ow.length]).length = ow.length + 1 := by simp
            walk_at "go"
            refine rd_sited (B := B ++ [m]) (sc := sc.set m ow.length) (L := L + 1) (arl := arl ++ [ow.length]) (o := some ow.length) (ow := ow ++ [some ow.length])
              ⟨S1.keep0 k14, (hr2.keep k3 ne_mem0).keep k4 ne_mem0, sM_fresh S1 nr, by rw [har4, List.map_append] <;> rfl, sM_fresh S1 (k2.free (k3.free nar)), ?_, ?_, by rw [Ua.us_snoc]; exact h.good.snoc _, ?_, ?_⟩
              (((rb.mono k1.tup).mono k14.tup)) hw.2 (hB_set hB m ow.length) (by omega) (by rw [List.length_append]; show arl.length + 1 + n < 900; omega) (by omega) (by rw [hlen]; omega) fun v5 H5 us5 S5 e5 a5 r5 k5 => ?_
            · intro f hf
              rw [Ua.us_snoc, List.map_append]
              rcases List.mem_append.mp hf with z | z
              · exact List.mem_append.mpr (.inl (h.inn f z))
              · exact List.mem_append.mpr (.inr z)
            · intro f hf
              rw [Ua.us_snoc, List.map_append] at hf
              rw [hlen]
              rcases List.mem_append.mp hf with z | z
              · have := h.key f z; omega
              · rw [List.mem_singleton.mp z]; show ow.length < _; omega
            · rw [hlen, List.length_append]; have := h.l1; show fs.length + 1 ≤ _; omega
            · rw [hlen, List.length_append]; have := h.l2; show us.length + 1 ≤ _; omega
            walk_at "go"
            rename_i pz H6 nz k6 h6
            rw [hlen] at S5 e5 r5
            refine q _ H6 us5 ?_ ?_ (AdNew.trans (AdNew.snoc na) (k1.trans k14.up) a5) ⟨pz, v5, rfl, h6, r5.mono k6.tup⟩ ((kp_comp k1 (AdNew.snoc na) (k14.up.trans k5)).trans k6.up)
            · have := S5.keep0 k6
              simpa [own, funs] using this
            · rw [e5, Ua.us_snoc]
              rfl
          | num m => exact absurd rfl (e1 m)
          | name m => exact absurd rfl (e2 m)
          | lt m a b => exact absurd rfl (e3 m a b)
          | _ => exact ite_dF (word_fun (fun _ _ z => nomatch z)) (hZ _ ⟨rfl, fun _ _ z => nomatch z⟩)
      · walk_at "go"
        cases e with
        | lt m x y =>
          refine ite_dT rfl ?_
          obtain ⟨t', vx, vy, ev, ht2, rx, ry⟩ := hre
          cases ev
          have hns : (E.lt m x y).ns = x.ns + y.ns + 1 := by simp [E.ns]; try omega
          have hdp : x.depth < (E.lt m x y).depth ∧ y.depth < (E.lt m x y).depth := by simp [E.depth]; try omega
          have hlen : (ow ++ [o]).length = ow.length + 1 := by simp
          walk_at "go"
          refine rd_newSite0 h.S (by omega) (by have := h.l1; omega) (by have := h.l2; omega) fun H1 S1 k1 => ?_
          have hob1 := S1.ob
          have P1 : SPre H1 C_Sites p dx fl lo lf du (ow ++ [o]) fs us c sc L ar arl := ⟨S1, h.hc.keep k1 h.cM, h.cM, k1.keep _ _ h.ha h.aM, h.aM, h.inn, fun f hf => by rw [hlen]; have := h.key f hf; omega, h.good, by rw [hlen]; have := h.l1; omega, by rw [hlen]; have := h.l2; omega⟩
          walk_at "go"
          refine rd_sited (B := B) P1 (rx.mono k1.tup) hw.2.1 hB (by omega) (by omega) (by omega) (by rw [hlen]; omega) fun v2 H2 us2 S2 e2 a2 r2 k2 => ?_
          have P2 := P1.next S2 e2 a2 k2
          have hob2 := S2.ob
          have k12 := k1.trans k2
          have w2 : AdNew H us us2 := AdNew.trans AdNew.refl k1 a2
          have hlen2 : (ow ++ [o] ++ own x o (ow ++ [o]).length).length = ow.length + 1 + x.ns := by rw [List.length_append, own_length, hlen]
          clear k1 k2
          walk_at "go"
          refine rd_withName P2.hc (by omega) fun r H3 nr k3 hr3 => ?_
          walk_at "go"
          refine rd_sited (B := B ++ [m]) (sc := sc.set m ow.length) (L := L + 1) { P2.keep0 k3 with hc := hr3, cM := sM_fresh S2 nr } ((ry.mono k12.tup).mono k3.tup) hw.2.2 (hB_set hB m ow.length) (by omega) (by omega) (by omega) (by rw [hlen2]; omega) fun v4 H4 us4 S4 e4 a4 r4 k4 => ?_
          walk_at "go"
          rename_i pz H5 nz k5 h5
          rw [hlen2] at S4 e4 r4
          rw [hlen] at S4 e2 r2
          refine q _ H5 us4 ?_ (by rw [e4, e2] <;> rfl) (w2.trans (k12.trans k3.up) a4) ⟨pz, v2, v4, rfl, h5, ((r2.mono k3.tup).mono k4.tup).mono k5.tup, r4.mono k5.tup⟩ ((kp_comp k12 w2 (k3.up.trans k4)).trans k5.up)
          have := S4.keep0 k5
          simpa [own, funs] using this
        | num m => exact absurd rfl (e1 m)
        | name m => exact absurd rfl (e2 m)
        | _ => exact ite_dF (word_let (fun _ _ _ z => nomatch z)) (hZ _ ⟨rfl, fun _ _ _ z => nomatch z⟩)
    · walk_at "go"
      cases e with
      | name m =>
        refine ite_dT rfl ?_
        obtain ⟨t', ev, ht2⟩ := hre
        cases ev
        obtain ⟨s0, hs⟩ := hB m (by first | exact hw | exact hw.1 | exact hw.2)
        have hsv : valV kvs (Sum.inl (m : Int)) = some (nV s0) := by rw [hkv, hs] <;> rfl
        walk_at "go"
        refine for_list (K := K) (a := ar) (xs := arl.map nV) (fun i σ' H' => ∃ (v5 : Option V) (us' : Ua), σ' = [some (.ref p), some (.ref t), some (.ref c), some (oV o), some (.ref ar), v5, none, none, none] ∧
          SAt H' C_Sites p dx fl lo lf du ow fs us' ∧ us'.us = look1 (arl.take i) s0 us.us ∧ us'.ad = us.ad ∧ Kp (sM lo lf du us) H H') ⟨none, us, rfl, h.S, by rw [List.take_zero, look1_nil], rfl, Kp.refl⟩ ?_ ?_ ?_
        · rintro i _ H1 _ ⟨v5, us', rfl, S1, e1', a1, k1⟩
          exact SqL.of (k1.keep _ _ har h.aM)
        · rintro i y _ H1 hi ⟨v5, us', rfl, S1, e1', a1, k1⟩
          obtain ⟨f, hf, rfl⟩ : ∃ f, arl[i]? = some f ∧ y = nV f := by
            rw [List.getElem?_map] at hi
            cases e : arl[i]? with
            | none => rw [e] at hi; cases hi
            | some f => rw [e] at hi; exact ⟨f, rfl, (Option.some.inj hi).symm⟩
          have hin : f ∈ us'.us.map (fun u => u.1) := by rw [e1', look1_keys]; exact h.inn f (List.mem_of_getElem? hf)
          rw [Ua.us_keys] at hin
          obtain ⟨u, hu', rfl⟩ := List.mem_map.mp hin
          have hob1 := S1.ob
          have hu1 := S1.hu
          have hl1 := S1.hl u hu'
          have hval := valU S1.ks hu'
          have hc1 := k1.keep _ _ hc h.cM
          have etk : arl.take (i + 1) = arl.take i ++ [u.1] := take_at hf
          have hsM : sM lo lf du us' = sM lo lf du us := by unfold sM; rw [a1]
          refine rd_name ?_
          refine rd_if ?_
          walk_at "go"
          refine ite2 (fun c1 => ?_) (fun c1 => ?_)
          · have c1' : s0 < u.1 := by have := of_decide_eq_true c1; omega
            walk_at "go"
            refine rd_notIn (SqL.of hl1) rfl (flat_nV _) ?_
            walk_at "go"
            rw [inV_nV]
            refine ite2 (fun c2 => ?_) (fun c2 => ?_)
            · have c2' : s0 ∉ u.2.2 := by simpa using c2
              walk_at "go"
              have hg : Good us'.us := by rw [e1']; exact h.good.look _ _
              have hg' := hg (u.1, u.2.2) (List.mem_map.mpr ⟨u, hu', rfl⟩)
              have hk' : u.1 < ow.length := h.key _ (h.inn _ (List.mem_of_getElem? hf))
              have hll : u.2.2.length ≤ u.1 := nd_lt hg'.1 hg'.2
              refine rd_app hl1 (by rw [List.length_map]; omega) fun H2 k2 h2 => ?_
              refine ⟨_, us'.ch u.1 (u.2.2 ++ [s0]), rfl, S1.chU hu' k2 (by rw [h2, List.map_append] <;> rfl), ?_, by rw [Ua.ch_ad]; exact a1, k1.trans (k2.mono fun b hb => ?_)⟩
              · rw [etk, ← look1_snoc, ← e1']
                exact ch_look S1.ks hu' c1' c2'
              · rw [List.mem_singleton.mp hb]
                have : u.2.1 ∈ us'.ad := List.mem_map.mpr ⟨u, hu', rfl⟩
                rw [a1] at this
                exact List.mem_cons_of_mem _ (List.mem_cons_of_mem _ (List.mem_cons_of_mem _ this))
            · have c2' : s0 ∈ u.2.2 := by simpa using c2
              walk_at "go"
              exact ⟨_, us', rfl, S1, by rw [etk, ← look1_snoc, ← e1']; exact no_look S1.ks hu' (fun z => z.2 c2'), a1, k1⟩
          · walk_at "go"
            exact ⟨_, us', rfl, S1, by rw [etk, ← look1_snoc, ← e1']; exact no_look S1.ks hu' (fun z => by have := of_decide_eq_false (by simpa using c1 : decide ((s0 : Int) < (u.1 : Int)) = false); omega), a1, k1⟩
        · rintro _ H1 ⟨v5, us', rfl, S1, e1', a1, k1⟩
          have hc1 := k1.keep _ _ hc h.cM
          walk_at "go"
          rename_i pz H2 nz k2 h2
          rw [List.length_map, List.take_length] at e1'
          refine q _ H2 us' (by simpa [own, funs] using S1.keep0 k2) ?_ (fun a ha => .inl (by rw [← a1]; exact ha)) ⟨pz, rfl, ?_⟩ (k1.trans k2.up)
          · rw [e1']
            show _ = look1 arl ((sc m).getD 0) us.us
            rw [hs] <;> rfl
          · rw [hs]
            exact h2
      | num m => exact absurd rfl (e1 m)
      | _ => exact ite_dF (word_name (fun _ z => nomatch z)) (hZ _ ⟨rfl, fun _ z => nomatch z⟩)
  · walk_at "go"
    cases e with
    | num m =>
      refine ite_dT rfl ?_
      walk_at "go"
      exact q _ H us (by simpa [own, funs] using h.S) rfl AdNew.refl hre Kp.refl
    | _ => exact ite_dF (word_num (fun _ z => nomatch z)) (hZ _ ⟨rfl, fun _ z => nomatch z⟩)
end
end EW

end
section
open PySem L2 EW
local macro_rules | `(tactic| walk_at "ne") => `(tactic| first
  | assumption
  | exact Ne.symm (by assumption)
  | ((with_reducible refine' EW.RowAt.newne ?n ?h); (case n => assumption); (case h => walk_at "hp"))
  | ((with_reducible refine' Ne.symm (EW.RowAt.newne ?n ?h)); (case n => assumption); (case h => walk_at "hp"))
  | ((with_reducible refine' EW.BoxAt.newne ?n ?h); (case n => assumption); (case h => walk_at "hp"))
  | ((with_reducible refine' Ne.symm (EW.BoxAt.newne ?n ?h)); (case n => assumption); (case h => walk_at "hp")))
local macro_rules | `(tactic| walk_at "ns") => `(tactic| first
  | assumption
  | exact EW.RowAt.ne (by assumption)
  | ((with_reducible refine' EW.RowAt.notin ?n ?h); (case n => assumption); (case h => walk_at "hp")))
local macro_rules | `(tactic| walk_at "ni") => `(tactic| first
  | with_reducible exact EW.ne_mem0
  | with_reducible exact EW.dis0
  | ((with_reducible refine' EW.ne_mem1 ?h); (case h => walk_at "ne"))
  | ((with_reducible refine' EW.ne_mem2 ?h ?g); (case h => walk_at "ne"); (case g => walk_at "ne"))
  | ((with_reducible refine' EW.dis1 ?h); (case h => walk_at "ns"))
  | ((with_reducible refine' EW.dis2 ?h ?g); (case h => walk_at "ns"); (case g => walk_at "ns")))
local macro_rules | `(tactic| walk_at "hp") => `(tactic| first
  | assumption
  | ((with_reducible refine' EW.RE.mono (EW.Kp.tup ?k) ?h); (case k => assumption); (case h => walk_at "hp"))
  | ((with_reducible refine' EW.Kp.tup ?k _ _ ?h); (case k => assumption); (case h => walk_at "hp"))
  | ((with_reducible refine' EW.kp_tup ?k ?h); (case k => assumption); (case h => walk_at "hp"))
  | ((with_reducible refine' EW.Kp.keep ?k _ _ ?h ?n); (case k => assumption); (case h => walk_at "hp"); (case n => walk_at "ni"))
  | ((with_reducible refine' EW.Kp.seqL ?k ?h ?n); (case k => assumption); (case h => walk_at "hp"); (case n => walk_at "ni"))
  | ((with_reducible refine' EW.RowAt.keep ?k ?h ?n1 ?n2); (case k => assumption); (case h => walk_at "hp"); (case n1 => walk_at "ni"); (case n2 => walk_at "ni"))
  | ((with_reducible refine' EW.ScAt.keep ?k ?h ?n); (case k => assumption); (case h => walk_at "hp"); (case n => walk_at "ni"))
  | ((with_reducible refine' EW.BoxAt.keep ?k ?h ?n); (case k => assumption); (case h => walk_at "hp"); (case n => walk_at "ni"))
  | ((with_reducible refine' L2.SqL.of ?h); (case h => walk_at "hp"))
  | ((with_reducible refine' L2.SqT.of ?h); (case h => walk_at "hp")))
local macro_rules | `(tactic| walk_at "sb") => `(tactic| first
  | exact EW.sub0
  | exact EW.sub_refl
  | exact EW.sub_l
  | exact EW.sub_r)
local macro_rules | `(tactic| walk_at "kp") => `(tactic| first
  | exact EW.Kp.refl
  | assumption
  | ((with_reducible refine' EW.Kp.trans ?h (EW.Kp.mono ?k ?s)); (case k => assumption); (case s => walk_at "sb"); (case h => walk_at "kp")))
local macro_rules | `(tactic| walk_at "st") => `(tactic| first
  | with_reducible refine rd_seq ?_
  | with_reducible refine rd_next ?_
  | with_reducible refine rd_asg ?_
  | with_reducible refine rd_name ?_
  | with_reducible refine rd_ret ?_
  | with_reducible refine rd_drop ?_
  | ((with_reducible refine' rd_var ?e ?_); (case e => first | with_reducible assumption | exact rfl | assumption))
  | with_reducible refine rd_c ?_
  | with_reducible refine rd_op ?_
  | with_reducible refine rd_I0 ?_
  | with_reducible refine rd_test ?_
  | with_reducible refine rd_tB ?_
  | with_reducible refine rd_not ?_
  | with_reducible refine rd_and ?_
  | with_reducible refine rd_or ?_
  | with_reducible refine rd_ifE ?_
  | with_reducible refine rd_notV ?_
  | with_reducible refine rd_andV ?_
  | with_reducible refine rd_orV ?_
  | with_reducible refine rd_cons ?_
  | with_reducible refine EW.rd_par ?_
  | with_reducible refine EW.rd_par2 ?_
  | with_reducible refine EW.rd_parT ?_
  | with_reducible refine EW.rd_par3 ?_
  | with_reducible refine rd_nil ?_
  | with_reducible refine rd_cb ?_
  | with_reducible refine rd_call ?_
  | with_reducible refine rd_meth ?_
  | with_reducible refine rd_sub ?_
  | with_reducible refine rd_fl ?_
  | with_reducible refine rd_tup ?_
  | with_reducible refine rd_lst ?_
  | with_reducible refine rd_sl ?_
  | with_reducible refine rd_part ?_
  | with_reducible refine rd_partI ?_
  | with_reducible refine rd_nopart ?_
  | with_reducible refine rd_yes ?_
  | with_reducible refine rd_dnewK ?_
  | with_reducible refine rd_dnewT ?_
  | ((with_reducible refine' rd_isT ?h ?_); (case h => walk_at "hp"))
  | with_reducible refine rd_isI ?_
  | with_reducible refine rd_isII ?_
  | with_reducible refine rd_isIB ?_
  | ((with_reducible refine' rd_sum ?h ?_); (case h => walk_at "hp"))
  | ((with_reducible refine' rd_tail ?h ?_); (case h => walk_at "hp"))
  | ((with_reducible refine rd_newO ?_); intro _ _ _ _ _)
  | ((with_reducible refine' rd_lenS ?l ?_); (case l => exact rfl))
  | ((with_reducible refine' rd_ixS ?l ?e ?_); (case l => exact rfl); (case e => first | assumption | with_reducible exact EW.at_head | exact rfl))
  | with_reducible refine EW.ite_dT (by decide +kernel) ?_
  | with_reducible refine EW.ite_dF (by decide +kernel) ?_
  | with_reducible refine EW.ite_nT (by decide +kernel) ?_
  | with_reducible refine EW.ite_nF (by decide +kernel) ?_
  | with_reducible refine EW.iteNF ?_
  | with_reducible refine EW.iteNT ?_
  | with_reducible refine EW.iteEC ?_
  | with_reducible refine EW.iteEN ?_
  | with_reducible refine EW.iteNC ?_
  | with_reducible refine EW.iteNN ?_
  | with_reducible refine EW.rd_kget (by assumption) ?_
  | with_reducible refine EW.rd_kgx (by assumption) _ ?_
  | with_reducible refine EW.rd_ixD (by assumption) _ ?_
  | with_reducible refine EW.rd_chain ?_
  | with_reducible refine L2.iteT ?_
  | with_reducible refine L2.iteF ?_
  | with_reducible refine rd_bm ?_
  | with_reducible refine rd_bm0 ?_
  | with_reducible refine rd_sfld ?_
  | with_reducible refine rd_make ?_
  | ((with_reducible refine' rd_bmL ?s ?_); (case s => walk_at "hp"))
  | ((with_reducible refine' rd_bm0L ?s ?_); (case s => walk_at "hp"))
  | ((with_reducible refine' rd_mex ?s ?l ?_); (case s => walk_at "hp"); (case l => assumption))
  | with_reducible refine rd_lc ?_
  | with_reducible refine rd_for ?_
  | with_reducible refine rd_il ?_
  | with_reducible refine rd_it ?_
  | with_reducible refine rd_ir ?_
  | with_reducible refine rd_dput ?_
  | with_reducible refine rd_dget ?_
  | ((with_reducible refine' rd_ilx ?s ?_); (case s => walk_at "hp"))
  | ((with_reducible refine' rd_itx ?s ?_); (case s => walk_at "hp"))
  | ((with_reducible refine' rd_getK ?s ?e ?_); (case s => walk_at "hp"); (case e => assumption))
  | ((with_reducible refine rd_newT rfl ?_); intro _ _ _ _ _)
  | ((with_reducible refine rd_newL rfl ?_); intro _ _ _ _ _)
  | ((with_reducible refine' rd_taken ?a ?b ?c ?_); (case a => walk_at "hp"); (case b => first | omega | decide); (case c => first | omega | decide); intro _ _ _ _ _)
  | ((with_reducible refine' rd_neE ?a ?b ?_); (case a => walk_at "hp"); (case b => walk_at "hp"))
  | ((with_reducible refine' rd_eqE ?a ?b ?_); (case a => walk_at "hp"); (case b => walk_at "hp"))
  | with_reducible refine rd_eq rfl ?_
  | with_reducible refine rd_ne rfl ?_
  | with_reducible refine rd_bl ?_
  | ((with_reducible refine rd_I ?c ?_); (case c => first | assumption | omega | decide | (exact Or.inl ⟨by omega, by omega⟩) | (exact ⟨by omega, by omega⟩) | (exact ⟨by decide, by decide, by decide⟩)))
  | refine Or.inl ⟨_, rfl, ?_⟩
  | refine Or.inr ⟨_, rfl, ?_⟩
  | ((with_reducible refine' rd_lenL ?s ?_); (case s => walk_at "hp"))
  | ((with_reducible refine' rd_lenT ?s ?_); (case s => walk_at "hp"))
  | ((with_reducible refine' rd_ixL ?s ?e ?_); (case s => walk_at "hp"); (case e => first | assumption | with_reducible exact EW.at_head | exact rfl))
  | ((with_reducible refine' rd_ixT ?s ?e ?_); (case s => walk_at "hp"); (case e => first | assumption | with_reducible exact EW.at_head | exact rfl))
  | ((with_reducible refine' rd_flx ?s ?c ?n ?l ?_); (case s => walk_at "hp"); (case c => assumption); (case n => assumption); (case l => assumption)))
local macro_rules | `(tactic| walk_at "go") => `(tactic| repeat (walk_at "st"))
local macro_rules | `(tactic| walk_at "gi") => `(tactic| repeat (first | with_reducible refine rd_if ?_ | walk_at "st"))
namespace EW
open PySem L2
theorem Kp.fresh {M N : List Addr} {H H1 H2 : Hp} (k1 : Kp M H H1) (k : Kp N H1 H2) (h : ∀ m ∈ N, m ∈ M ∨ H m = none) : Kp M H H2 :=
  ⟨fun b o e n => k.keep b o (k1.keep b o e n) (fun z => by
      rcases h b z with q | q
      · exact n q
      · exact ne_of_none e q rfl), fun b xs e => k.tup b xs (k1.tup b xs e), fun b o e => let ⟨o1, e1⟩ := k1.there b o e; k.there b o1 e1⟩
theorem SAt.chP {H H' : Hp} {C p dx : Addr} {fl fl' : List (Str × V)} {lo lf du : Addr} {ow : List (Option Nat)} {fs : List Nat} {us : Ua} (S : SAt H C p dx fl lo lf du ow fs us) (k : Kp [p] H H') (h : H' p = some (.ins C dx fl')) (g : SFl fl' lo lf du) : SAt H' C p dx fl' lo lf du ow fs us where
  ob := h
  fl := g
  ho := k.keep _ _ S.ho fun z => S.pM (by rw [← List.mem_singleton.mp z]; exact List.mem_cons_self)
  hf := k.keep _ _ S.hf fun z => S.pM (by rw [← List.mem_singleton.mp z]; exact List.mem_cons_of_mem _ List.mem_cons_self)
  hu := k.keep _ _ S.hu fun z => S.pM (by rw [← List.mem_singleton.mp z]; exact List.mem_cons_of_mem _ (List.mem_cons_of_mem _ List.mem_cons_self))
  hl := fun u hu => k.keep _ _ (S.hl u hu) fun z => S.pM (by rw [← List.mem_singleton.mp z]; exact List.mem_cons_of_mem _ (List.mem_cons_of_mem _ (List.mem_cons_of_mem _ (List.mem_map.mpr ⟨u, hu, rfl⟩))))
  nd := S.nd
  ks := S.ks
/-- a Sites object of a program -/
structure StAt (H : Hp) (C x dx : Addr) (fl : List (Str × V)) (lo lf du : Addr) (us : Ua) (e : E) (v : V) : Prop where
  S : SAt H C x dx fl lo lf du (own e none 0) (funs e 0) us
  us : us.us = mU e sc0 0 [] []
  tr : fl.lookup ("tree" : Str) = some v
  re : RE H (sit e sc0 0) v
theorem StAt.keep {H H' : Hp} {C x dx : Addr} {fl : List (Str × V)} {lo lf du : Addr} {us : Ua} {e : E} {v : V} {M : List Addr} (k : Kp M H H') (h : StAt H C x dx fl lo lf du us e v) (n : ∀ m ∈ M, m ≠ x ∧ m ∉ sM lo lf du us) : StAt H' C x dx fl lo lf du us e v :=
  ⟨h.S.keep k n, h.us, h.tr, h.re.mono k.tup⟩
theorem StAt.keep0 {H H' : Hp} {C x dx : Addr} {fl : List (Str × V)} {lo lf du : Addr} {us : Ua} {e : E} {v : V} (k : Kp [] H H') (h : StAt H C x dx fl lo lf du us e v) : StAt H' C x dx fl lo lf du us e v := h.keep k fun _ z => nomatch z
theorem StAt.good {H : Hp} {C x dx : Addr} {fl : List (Str × V)} {lo lf du : Addr} {us : Ua} {e : E} {v : V} (h : StAt H C x dx fl lo lf du us e v) : Good us.us := by rw [h.us]; exact Good.mU e _ _ _ (fun _ z => nomatch z)
theorem StAt.keys {H : Hp} {C x dx : Addr} {fl : List (Str × V)} {lo lf du : Addr} {us : Ua} {e : E} {v : V} (h : StAt H C x dx fl lo lf du us e v) : us.map (fun u => u.1) = funs e 0 := by rw [← Ua.us_keys, h.us, mU_keys]; rfl
def spSites (C : Addr) : Sp := fun vs H Q _ => ∃ (x dx : Addr) (e : E) (v : V), vs = [.ref x, v] ∧ H x = some (.ins C dx []) ∧ RE H e v ∧ e.Wf [] ∧ e.depth ≤ 7 ∧ e.size ≤ 60 ∧
  ∀ (fl : List (Str × V)) (lo lf du : Addr) (us : Ua) (v' : V) H', StAt H' C x dx fl lo lf du us e v' → Kp [x] H H' → Q .non H'
theorem rd_sites {C : Addr} {H : Hp} {Q : VK} {EE : XK} {x dx : Addr} {e : E} {v : V} (h : H x = some (.ins C dx [])) (r : RE H e v) (w : e.Wf []) (d : e.depth ≤ 7) (z : e.size ≤ 60)
    (q : ∀ (fl : List (Str × V)) (lo lf du : Addr) (us : Ua) (v' : V) H', StAt H' C x dx fl lo lf du us e v' → Kp [x] H H' → Q .non H') : spSites C (.ref x :: ([v] ++ [])) H Q EE := ⟨x, dx, e, v, rfl, h, r, w, d, z, q⟩
def spSitesOf (C : Addr) : Sp := fun vs H Q _ => ∃ (p dx : Addr) (fl : List (Str × V)) (lo lf du : Addr) (ow : List (Option Nat)) (fs : List Nat) (us : Ua) (o : Option Nat), vs = [.ref p, oV o] ∧ SAt H C p dx fl lo lf du ow fs us ∧ ow.length < 900 ∧
  ∀ (r : Addr) H', H r = none → H' r = some (.lst ((sitesBy ow o).map nV)) → Kp [] H H' → Q (.ref r) H'
theorem rd_sitesOf {C : Addr} {H : Hp} {Q : VK} {EE : XK} {p dx : Addr} {fl : List (Str × V)} {lo lf du : Addr} {ow : List (Option Nat)} {fs : List Nat} {us : Ua} {o : Option Nat} (S : SAt H C p dx fl lo lf du ow fs us) (l : ow.length < 900)
    (q : ∀ (r : Addr) H', H r = none → H' r = some (.lst ((sitesBy ow o).map nV)) → Kp [] H H' → Q (.ref r) H') : spSitesOf C (.ref p :: ([oV o] ++ [])) H Q EE := ⟨p, dx, fl, lo, lf, du, ow, fs, us, o, rfl, S, l, q⟩
theorem oV_inj {a b : Option Nat} (h : oV a = oV b) : a = b := by
  cases a <;> cases b
  · rfl
  · cases h
  · cases h
  · have : ((_ : Nat) : Int) = ((_ : Nat) : Int) := V.int.inj h
    rw [Int.ofNat.inj this]
theorem scal_oV (a b : Option Nat) : scal (oV a) (oV b) = true := by cases a <;> cases b <;> rfl
section
variable {P : Program} {w : World} {K : PySem.W.Frag} {mg : Str → Option Value} {base : Heap} {a_SHAPES C_Sites : Addr}
theorem ok_sited {f : Addr} {fd : FuncData} (A : AtM K C_Sites "sited" "Sites.sited" s_Sites_sited ["self", "e", "scope", "owner", "around"] f fd) (T : TxtP K w mg a_SHAPES C_Sites)
    (c_with_name : Has P w K mg base "with_name" ["scope", "name", "site"] 1 spWithName) (c_Sites_new_site : HasM P w K mg base C_Sites "new_site" ["self", "owner", "is_fun"] 1 (spNewSite C_Sites)) : ∀ n, HasM P w K mg base C_Sites "sited" ["self", "e", "scope", "owner", "around"] (1 + n) (spSited C_Sites n)
  | 0 => ⟨f, fd, none_left fun vs H Q E h => by
      obtain ⟨_, _, _, _, _, _, _, _, _, _, _, _, _, _, _, _, _, _, _, _, _, _, _, _, _, h, _⟩ := h
      omega, A.m, A.b⟩
  | n + 1 => ok_sited_step A T c_with_name c_Sites_new_site (ok_sited A T c_with_name c_Sites_new_site n)
theorem ok_Sites {f : Addr} {fd : FuncData} (A : AtC K C_Sites "Sites.__init__" s_Sites___init__ ["self", "program"] f fd) (T : TxtP K w mg a_SHAPES C_Sites)
    (c_need_program : Has P w K mg base "need_program" ["program"] 10 spNeed) (c_Sites_sited : HasM P w K mg base C_Sites "sited" ["self", "e", "scope", "owner", "around"] 9 (spSited C_Sites 8)) : HasC P w K mg base C_Sites ["self", "program"] 11 (spSites C_Sites) := by
  obtain ⟨f_need_program, fd_need_program, G_need_program, m_need_program, k_need_program, b_need_program⟩ := c_need_program
  obtain ⟨f_Sites_sited, fd_Sites_sited, G_Sites_sited, me_Sites_sited, b_Sites_sited⟩ := c_Sites_sited
  refine ⟨f, fd, A.F.ok sc_Sites___init__ (fun vs H Q EE h => ?_) (fun cdv A outer s H vs Q EE hr h => ?_), A.m, A.b⟩
  · obtain ⟨_, _, _, _, rfl, _⟩ := h
    rfl
  obtain ⟨x, dx, e, v, rfl, hx, hre, hw, hd, hz, q⟩ := h
  have hu := hu_of hr
  have cl := T.cl_Sites
  have n1 := T.n_owners
  have n2 := T.n_funs
  have n3 := T.n_used
  have n4 := T.n_tree
  refine ⟨_, (pss_cons (ps_expr (pe_call G_need_program (hr.mono (by first | decide | omega)) (by rfl) m_need_program k_need_program b_need_program .nil pass0 (pa_cons (pv 1) pa_nil)))
      (pss_cons (ps_fld (pv 0) (pe_lst pa_nil) rfl)
      (pss_cons (ps_fld (pv 0) (pe_lst pa_nil) rfl)
      (pss_cons (ps_fld (pv 0) pe_dnewK rfl)
      (pss_one (ps_fld (pv 0) (pe_meth (pv 0) T.cl_Sites me_Sites_sited G_Sites_sited (hr.mono (by first | decide | omega)) b_Sites_sited .nil pass0 (pa_cons (pv 1) (pa_cons pe_dnewK (pa_cons pe_non (pa_cons (pe_lst pa_nil) pa_nil))))) rfl)))))), ?_⟩
  refine at_st (σ' := [some (.ref x), some v]) rfl ?_
  walk_at "go"
  refine rd_need hre hw hd hz fun H1 k1 => ?_
  walk_at "go"
  rename_i lo H2 nlo k2 h2
  refine rd_sfx (k2.keep _ _ (k1.keep _ _ hx ne_mem0) ne_mem0) cl n1 (Nat.le_of_ble_eq_true rfl) fun H3 k3 h3 => ?_
  walk_at "go"
  rename_i lf H4 nlf k4 h4
  refine rd_sfx (k4.keep _ _ h3 ne_mem0) cl n2 (Nat.le_of_ble_eq_true rfl) fun H5 k5 h5 => ?_
  walk_at "go"
  rename_i du H6 ndu k6 h6
  refine rd_sfx (k6.keep _ _ h5 ne_mem0) cl n3 (Nat.le_of_ble_eq_true rfl) fun H7 k7 h7 => ?_
  have h7' : H7 x = some (.ins C_Sites dx [("owners", .ref lo), ("funs", .ref lf), ("used", .ref du)]) := h7
  have xlo : lo ≠ x := (ne_of_none (k1.keep _ _ hx ne_mem0) nlo).symm
  have xlf : lf ≠ x := (ne_of_none h3 nlf).symm
  have xdu : du ≠ x := (ne_of_none h5 ndu).symm
  have S7 : SAt H7 C_Sites x dx [("owners", .ref lo), ("funs", .ref lf), ("used", .ref du)] lo lf du [] [] [] :=
    ⟨h7', ⟨rfl, rfl, rfl, rfl, rfl, rfl, rfl⟩, k7.keep _ _ (k6.keep _ _ (k5.keep _ _ (k4.keep _ _ (k3.keep _ _ h2 (ne_mem1 xlo)) ne_mem0) (ne_mem1 xlo)) ne_mem0) (ne_mem1 xlo), k7.keep _ _ (k6.keep _ _ (k5.keep _ _ h4 (ne_mem1 xlf)) ne_mem0) (ne_mem1 xlf),
     k7.keep _ _ h6 (ne_mem1 xdu), fun _ z => (nomatch z), by
      have : lo ≠ lf := ne_of_none (k3.keep _ _ h2 (ne_mem1 xlo)) nlf
      simpa [Ua.ad] using this, List.nodup_nil⟩
  have k17 : Kp [x] H H7 := (((k1.trans k2).up.trans k3).trans (k4.up.trans k5)).trans (k6.up.trans k7)
  have flo : H lo = none := k1.free nlo
  have flf : H lf = none := ((k1.trans k2).up.trans k3).free nlf
  have fdu : H du = none := (((k1.trans k2).up.trans k3).trans (k4.up.trans k5)).free ndu
  walk_at "st"
  walk_at "st"
  walk_at "st"
  refine rd_mex S7.ob rfl ?_
  walk_at "go"
  rename_i c H8 nc k8 h8 ar H9 nar k9 h9
  have S9 := (S7.keep0 k8).keep0 k9
  have fr : ∀ m ∈ sM lo lf du [], m ∈ [x] ∨ H m = none := fun m hm => by
    unfold sM Ua.ad at hm
    simp only [List.map_nil, List.mem_cons, List.not_mem_nil, or_false] at hm
    rcases hm with rfl | rfl | rfl
    · exact .inr flo
    · exact .inr flf
    · exact .inr fdu
  refine rd_sited (B := []) (sc := sc0) (L := 0) (o := none) (arl := []) (ow := []) (fs := []) (us := []) ⟨S9, ⟨[], k9.keep _ _ h8 ne_mem0, Nat.le_refl _, fun _ => rfl⟩, sM_fresh S7 nc, h9, sM_fresh S7 (k8.free nar), fun _ z => (nomatch z), fun _ z => (nomatch z), fun _ z => (nomatch z), Nat.le_refl _, Nat.le_refl _⟩
    (hre.mono (k17.trans (k8.trans k9).up).tup) hw (fun _ z => nomatch z) (by omega) (by show 0 + 8 < 900; decide) (by omega) (by have := E.ns_le_size e; show 0 + e.ns ≤ 200; omega) fun v' H10 us' S' e' a' r' k10 => ?_
  have S'' : SAt H10 C_Sites x dx [("owners", .ref lo), ("funs", .ref lf), ("used", .ref du)] lo lf du (own e none 0) (funs e 0) us' := S'
  walk_at "go"
  refine rd_sfx S''.ob cl n4 (Nat.le_of_ble_eq_true rfl) fun H11 k11 h11 => ?_
  exact q _ lo lf du us' v' H11 ⟨S''.chP k11 h11 ⟨rfl, rfl, rfl, rfl, rfl, rfl, rfl⟩, e', rfl, RE.mono k11.tup r'⟩ ((Kp.fresh (k17.trans (k8.trans k9).up) k10 fr).trans k11)
theorem ok_Sites_sites_of {f : Addr} {fd : FuncData} (A : AtM K C_Sites "sites_of" "Sites.sites_of" s_Sites_sites_of ["self", "owner"] f fd) (T : TxtP K w mg a_SHAPES C_Sites) : HasM P w K mg base C_Sites "sites_of" ["self", "owner"] 1 (spSitesOf C_Sites) := by
  refine ⟨f, fd, A.F.ok sc_Sites_sites_of (fun vs H Q EE h => ?_) (fun cdv A outer s H vs Q EE hr h => ?_), A.m, A.b⟩
  · obtain ⟨_, _, _, _, _, _, _, _, _, _, rfl, _⟩ := h
    rfl
  obtain ⟨p, dx, fl, lo, lf, du, ow, fs, us, o, rfl, S, hl, q⟩ := h
  have hu := hu_of hr
  have cl := T.cl_Sites
  have n1 := T.n_owners
  have n2 := T.n_funs
  have n3 := T.n_used
  obtain ⟨fo, ff, fU, m1, m2, m3, m4⟩ := S.fl
  have hob := S.ob
  have hlo := S.ho
  refine ⟨_, (pss_one (ps_ret (pe_lc (own := [("site", 2)]) (g := (gName 2)) (tt := _) rfl sc_Sites_sites_of.nd (pi_range1 (by rfl) T.z_range (pa_cons (pe_callB (w_len (K := K) rfl) (by rfl) T.z_len PySem.boot_len (pa_cons (w_fld (K := K) rfl (pv 0) rfl) pa_nil)) pa_nil)) (blkOk_by (own := [("site", 2)]) (N := N_Sites_sites_of) (sc := defScope s_Sites_sites_of) (by decide +kernel)) (fun _ _ _ _ _ => (pg_name (i := 2) sc_Sites_sites_of.nd rfl (Or.inl rfl))) (fun _ _ _ _ _ => pts_one (pt_cmpR op_eq (pe_ix (w_ixL (K := K) rfl) (w_fld (K := K) rfl (pv 0) rfl) (pv 2) (fun _ _ => rfl)) (pv 1) (nomark _))) (fun _ _ _ _ _ => (pv 2))))), ?_⟩
  refine at_st (σ' := [some (.ref p), some (oV o), none]) rfl ?_
  walk_at "go"
  refine rd_irx (m := ow.length) (by rw [List.length_map]) (by omega) ?_
  intro D hD
  refine lc_JR (M := []) (fun l acc _ => acc = ((List.range l.length).filter fun s => decide (ow[s]? = some o)).map nV) (fun _ _ _ _ _ h => h) hD (fun _ z => nomatch z) (by omega) rfl ?_ ?_
  · intro l x r acc H1 e hacc k1 _ _ Qy Qn qy qn
    obtain ⟨rfl, hlt⟩ := rgL_split e
    have hat : atI (ow.map oV) ((l.length : Nat) : Int) = some (oV ow[l.length]) := atI_nat (by rw [List.getElem?_map, List.getElem?_eq_getElem hlt] <;> rfl)
    have es : (l ++ [V.int ((l.length : Nat) : Int)]).length = l.length + 1 := by simp
    refine rd_name ⟨rfl, ?_⟩
    walk_at "go"
    refine rd_eq (scal_oV _ _) ?_
    walk_at "go"
    refine ite2 (fun c => ?_) (fun c => ?_)
    · have c' := oV_inj (of_decide_eq_true c)
      walk_at "go"
      refine qy _ _ Kp.refl ?_
      rw [es, List.range_succ, List.filter_append, List.map_append, ← hacc]
      have : decide (ow[l.length]? = some o) = true := by rw [List.getElem?_eq_getElem hlt, c']; exact decide_eq_true rfl
      simp [this]
    · have c' : ¬ ow[l.length] = o := fun z => c (by rw [z]; exact decide_eq_true rfl)
      refine qn _ Kp.refl ?_
      rw [es, List.range_succ, List.filter_append, List.map_append, ← hacc]
      have : decide (ow[l.length]? = some o) = false := by rw [List.getElem?_eq_getElem hlt]; exact decide_eq_false fun z => c' (Option.some.inj z)
      simp [this]
  · intro acc H1 hacc k1 h1 _
    rw [rgL_len] at hacc
    exact q D H1 hD (by rw [h1, hacc] <;> rfl) k1
end
end EW

end
section
open PySem L2 EW
local macro_rules | `(tactic| walk_at "ne") => `(tactic| first
  | assumption
  | exact Ne.symm (by assumption)
  | ((with_reducible refine' EW.RowAt.newne ?n ?h); (case n => assumption); (case h => walk_at "hp"))
  | ((with_reducible refine' Ne.symm (EW.RowAt.newne ?n ?h)); (case n => assumption); (case h => walk_at "hp"))
  | ((with_reducible refine' EW.BoxAt.newne ?n ?h); (case n => assumption); (case h => walk_at "hp"))
  | ((with_reducible refine' Ne.symm (EW.BoxAt.newne ?n ?h)); (case n => assumption); (case h => walk_at "hp")))
local macro_rules | `(tactic| walk_at "ns") => `(tactic| first
  | assumption
  | exact EW.RowAt.ne (by assumption)
  | ((with_reducible refine' EW.RowAt.notin ?n ?h); (case n => assumption); (case h => walk_at "hp")))
local macro_rules | `(tactic| walk_at "ni") => `(tactic| first
  | with_reducible exact EW.ne_mem0
  | with_reducible exact EW.dis0
  | ((with_reducible refine' EW.ne_mem1 ?h); (case h => walk_at "ne"))
  | ((with_reducible refine' EW.ne_mem2 ?h ?g); (case h => walk_at "ne"); (case g => walk_at "ne"))
  | ((with_reducible refine' EW.dis1 ?h); (case h => walk_at "ns"))
  | ((with_reducible refine' EW.dis2 ?h ?g); (case h => walk_at "ns"); (case g => walk_at "ns")))
local macro_rules | `(tactic| walk_at "hp") => `(tactic| first
  | assumption
  | ((with_reducible refine' EW.RE.mono (EW.Kp.tup ?k) ?h); (case k => assumption); (case h => walk_at "hp"))
  | ((with_reducible refine' EW.Kp.tup ?k _ _ ?h); (case k => assumption); (case h => walk_at "hp"))
  | ((with_reducible refine' EW.kp_tup ?k ?h); (case k => assumption); (case h => walk_at "hp"))
  | ((with_reducible refine' EW.Kp.keep ?k _ _ ?h ?n); (case k => assumption); (case h => walk_at "hp"); (case n => walk_at "ni"))
  | ((with_reducible refine' EW.Kp.seqL ?k ?h ?n); (case k => assumption); (case h => walk_at "hp"); (case n => walk_at "ni"))
  | ((with_reducible refine' EW.RowAt.keep ?k ?h ?n1 ?n2); (case k => assumption); (case h => walk_at "hp"); (case n1 => walk_at "ni"); (case n2 => walk_at "ni"))
  | ((with_reducible refine' EW.ScAt.keep ?k ?h ?n); (case k => assumption); (case h => walk_at "hp"); (case n => walk_at "ni"))
  | ((with_reducible refine' EW.BoxAt.keep ?k ?h ?n); (case k => assumption); (case h => walk_at "hp"); (case n => walk_at "ni"))
  | ((with_reducible refine' L2.SqL.of ?h); (case h => walk_at "hp"))
  | ((with_reducible refine' L2.SqT.of ?h); (case h => walk_at "hp")))
local macro_rules | `(tactic| walk_at "sb") => `(tactic| first
  | exact EW.sub0
  | exact EW.sub_refl
  | exact EW.sub_l
  | exact EW.sub_r)
local macro_rules | `(tactic| walk_at "kp") => `(tactic| first
  | exact EW.Kp.refl
  | assumption
  | ((with_reducible refine' EW.Kp.trans ?h (EW.Kp.mono ?k ?s)); (case k => assumption); (case s => walk_at "sb"); (case h => walk_at "kp")))
local macro_rules | `(tactic| walk_at "st") => `(tactic| first
  | with_reducible refine rd_seq ?_
  | with_reducible refine rd_next ?_
  | with_reducible refine rd_asg ?_
  | with_reducible refine rd_name ?_
  | with_reducible refine rd_ret ?_
  | with_reducible refine rd_drop ?_
  | ((with_reducible refine' rd_var ?e ?_); (case e => first | with_reducible assumption | exact rfl | assumption))
  | with_reducible refine rd_c ?_
  | with_reducible refine rd_op ?_
  | with_reducible refine rd_I0 ?_
  | with_reducible refine rd_test ?_
  | with_reducible refine rd_tB ?_
  | with_reducible refine rd_not ?_
  | with_reducible refine rd_and ?_
  | with_reducible refine rd_or ?_
  | with_reducible refine rd_ifE ?_
  | with_reducible refine rd_notV ?_
  | with_reducible refine rd_andV ?_
  | with_reducible refine rd_orV ?_
  | with_reducible refine rd_cons ?_
  | with_reducible refine EW.rd_par ?_
  | with_reducible refine EW.rd_par2 ?_
  | with_reducible refine EW.rd_parT ?_
  | with_reducible refine EW.rd_par3 ?_
  | with_reducible refine rd_nil ?_
  | with_reducible refine rd_cb ?_
  | with_reducible refine rd_call ?_
  | with_reducible refine rd_meth ?_
  | with_reducible refine rd_sub ?_
  | with_reducible refine rd_fl ?_
  | with_reducible refine rd_tup ?_
  | with_reducible refine rd_lst ?_
  | with_reducible refine rd_sl ?_
  | with_reducible refine rd_part ?_
  | with_reducible refine rd_partI ?_
  | with_reducible refine rd_nopart ?_
  | with_reducible refine rd_yes ?_
  | with_reducible refine rd_dnewK ?_
  | with_reducible refine rd_dnewT ?_
  | ((with_reducible refine' rd_isT ?h ?_); (case h => walk_at "hp"))
  | with_reducible refine rd_isI ?_
  | with_reducible refine rd_isII ?_
  | with_reducible refine rd_isIB ?_
  | ((with_reducible refine' rd_sum ?h ?_); (case h => walk_at "hp"))
  | ((with_reducible refine' rd_tail ?h ?_); (case h => walk_at "hp"))
  | ((with_reducible refine rd_newO ?_); intro _ _ _ _ _)
  | ((with_reducible refine' rd_lenS ?l ?_); (case l => exact rfl))
  | ((with_reducible refine' rd_ixS ?l ?e ?_); (case l => exact rfl); (case e => first | assumption | with_reducible exact EW.at_head | exact rfl))
  | with_reducible refine EW.ite_dT (by decide +kernel) ?_
  | with_reducible refine EW.ite_dF (by decide +kernel) ?_
  | with_reducible refine EW.ite_nT (by decide +kernel) ?_
  | with_reducible refine EW.ite_nF (by decide +kernel) ?_
  | with_reducible refine EW.iteNF ?_
  | with_reducible refine EW.iteNT ?_
  | with_reducible refine EW.iteEC ?_
  | with_reducible refine EW.iteEN ?_
  | with_reducible refine EW.iteNC ?_
  | with_reducible refine EW.iteNN ?_
  | with_reducible refine EW.rd_kget (by assumption) ?_
  | with_reducible refine EW.rd_kgx (by assumption) _ ?_
  | with_reducible refine EW.rd_ixD (by assumption) _ ?_
  | with_reducible refine EW.rd_chain ?_
  | with_reducible refine L2.iteT ?_
  | with_reducible refine L2.iteF ?_
  | with_reducible refine rd_bm ?_
  | with_reducible refine rd_bm0 ?_
  | with_reducible refine rd_sfld ?_
  | with_reducible refine rd_make ?_
  | ((with_reducible refine' rd_bmL ?s ?_); (case s => walk_at "hp"))
  | ((with_reducible refine' rd_bm0L ?s ?_); (case s => walk_at "hp"))
  | ((with_reducible refine' rd_mex ?s ?l ?_); (case s => walk_at "hp"); (case l => assumption))
  | with_reducible refine rd_lc ?_
  | with_reducible refine rd_for ?_
  | with_reducible refine rd_il ?_
  | with_reducible refine rd_it ?_
  | with_reducible refine rd_ir ?_
  | with_reducible refine rd_dput ?_
  | with_reducible refine rd_dget ?_
  | ((with_reducible refine' rd_ilx ?s ?_); (case s => walk_at "hp"))
  | ((with_reducible refine' rd_itx ?s ?_); (case s => walk_at "hp"))
  | ((with_reducible refine' rd_getK ?s ?e ?_); (case s => walk_at "hp"); (case e => assumption))
  | ((with_reducible refine rd_newT rfl ?_); intro _ _ _ _ _)
  | ((with_reducible refine rd_newL rfl ?_); intro _ _ _ _ _)
  | ((with_reducible refine' rd_taken ?a ?b ?c ?_); (case a => walk_at "hp"); (case b => first | omega | decide); (case c => first | omega | decide); intro _ _ _ _ _)
  | ((with_reducible refine' rd_neE ?a ?b ?_); (case a => walk_at "hp"); (case b => walk_at "hp"))
  | ((with_reducible refine' rd_eqE ?a ?b ?_); (case a => walk_at "hp"); (case b => walk_at "hp"))
  | with_reducible refine rd_eq rfl ?_
  | with_reducible refine rd_ne rfl ?_
  | with_reducible refine rd_bl ?_
  | ((with_reducible refine rd_I ?c ?_); (case c => first | assumption | omega | decide | (exact Or.inl ⟨by omega, by omega⟩) | (exact ⟨by omega, by omega⟩) | (exact ⟨by decide, by decide, by decide⟩)))
  | refine Or.inl ⟨_, rfl, ?_⟩
  | refine Or.inr ⟨_, rfl, ?_⟩
  | ((with_reducible refine' rd_lenL ?s ?_); (case s => walk_at "hp"))
  | ((with_reducible refine' rd_lenT ?s ?_); (case s => walk_at "hp"))
  | ((with_reducible refine' rd_ixL ?s ?e ?_); (case s => walk_at "hp"); (case e => first | assumption | with_reducible exact EW.at_head | exact rfl))
  | ((with_reducible refine' rd_ixT ?s ?e ?_); (case s => walk_at "hp"); (case e => first | assumption | with_reducible exact EW.at_head | exact rfl))
  | ((with_reducible refine' rd_flx ?s ?c ?n ?l ?_); (case s => walk_at "hp"); (case c => assumption); (case n => assumption); (case l => assumption)))
local macro_rules | `(tactic| walk_at "go") => `(tactic| repeat (walk_at "st"))
local macro_rules | `(tactic| walk_at "gi") => `(tactic| repeat (first | with_reducible refine rd_if ?_ | walk_at "st"))
namespace EW
open PySem L2
section
variable {K : PySem.W.Frag} {a : Addr} {g : TG} {tt : TT} {te : TE} {vs : List Nat} {σ : L2.St} {H1 : Hp} {D : Addr} {Qd : Hp → Prop}
/-- a comprehension that picks numbers of a list -/
theorem lc_filt {ns : List Nat} (p : Nat → Bool) (hD : H1 D = none) (hS : SqL K H1 a (ns.map nV)) (hl : ns.length < 1000000)
    (hs : ∀ n ∈ ns, ∀ H, Kp [] H1 H → ∀ (Qy : VK) (Qn : Hp → Prop), (p n = true → ∀ H4, Kp [] H H4 → Qy (nV n) H4) → (p n = false → ∀ H3, Kp [] H H3 → Qn H3) →
      g (nV n) (wipe σ vs) H fun σ2 H2 => wipe σ2 vs = wipe σ vs ∧ tt σ2 H2 fun b H3 => if b = true then te σ2 H3 Qy else Qn H3)
    (hd : ∀ H, Kp [] H1 H → H D = some (.lst ((ns.filter p).map nV)) → Qd H) :
    ∃ W : Nat → Nat → Hp → Prop, (∃ m, W 0 m (upd H1 D (.lst []))) ∧ ∀ i m H, W i m H → ((Itl K a).stop i H ∧ Qd H) ∨ ((Itl K a).go i H ∧ ∃ Nx : Hp → Prop, (∀ H', Nx H' → ∃ m', m' < m ∧ W (i + 1) m' H') ∧
      ∀ x H', (Itl K a).yld i H x H' → g x (wipe σ vs) H' fun σ2 H2 => wipe σ2 vs = wipe σ vs ∧ tt σ2 H2 fun b H3 => if b = true then te σ2 H3 fun y H4 => ∃ acc, H4 D = some (.lst acc) ∧ acc.length < sizeLine ∧ Nx (upd H4 D (.lst (acc ++ [y]))) else Nx H3) := by
  refine lc_J (M := []) (fun l acc _ => acc = ((ns.take l.length).filter p).map nV) (fun _ _ _ _ _ h => h) hD (fun _ h => nomatch h) hS (fun h => nomatch h) (by rw [List.length_map]; exact hl) (by simp) ?_ ?_
  · intro l x r acc H e hacc k _ _ Qy Qn qy qn
    have hlt : l.length < ns.length := by
      have := congrArg List.length e
      rw [List.length_map, List.length_append, List.length_cons] at this
      omega
    have hx : x = nV ns[l.length] := by
      have h2 : (ns.map nV)[l.length]? = some x := by rw [e, List.getElem?_append_right (Nat.le_refl _), Nat.sub_self]; rfl
      rw [List.getElem?_map, List.getElem?_eq_getElem hlt] at h2
      exact (Option.some.inj h2).symm
    subst hx
    have et : ns.take (l ++ [nV ns[l.length]]).length = ns.take l.length ++ [ns[l.length]] := by
      rw [List.length_append]
      exact take_at (List.getElem?_eq_getElem hlt)
    refine hs ns[l.length] (List.getElem_mem hlt) H k Qy Qn (fun hp H4 k4 => qy _ _ k4 ?_) (fun hp H3 k3 => qn _ k3 ?_)
    · rw [et, List.filter_append, List.map_append, ← hacc]
      simp [hp]
    · rw [et, List.filter_append, List.map_append, ← hacc]
      simp [hp]
  · intro acc H hacc k h _
    rw [List.length_map, List.take_length] at hacc
    exact hd H k (by rw [h, hacc])
end
theorem StAt.small {H : Hp} {C x dx : Addr} {fl : List (Str × V)} {lo lf du : Addr} {us : Ua} {e : E} {v : V} (h : StAt H C x dx fl lo lf du us e v) (z : e.size ≤ 60) : us.length ≤ 60 ∧ ∀ u ∈ us, u.2.2.length ≤ 60 := by
  have hn := E.ns_le_size e
  refine ⟨?_, fun u hu => ?_⟩
  · have := congrArg List.length h.keys
    rw [List.length_map] at this
    have := funs_length e 0
    omega
  · have hg := h.good (u.1, u.2.2) (List.mem_map.mpr ⟨u, hu, rfl⟩)
    have h1 : u.2.2.length ≤ u.1 := nd_lt hg.1 hg.2
    have h2 : u.1 ∈ funs e 0 := by rw [← h.keys]; exact List.mem_map.mpr ⟨u, hu, rfl⟩
    have := (funs_range e 0 _ h2).2
    omega
def spHouseOf (C : Addr) : Sp := fun vs H Q _ => ∃ (p dx : Addr) (fl : List (Str × V)) (lo lf du : Addr) (ow : List (Option Nat)) (us : Ua) (o : Option Nat), vs = [.ref p, oV o] ∧ SAt H C p dx fl lo lf du ow (us.map fun u => u.1) us ∧ ow.length < 900 ∧ us.length ≤ 60 ∧ (∀ u ∈ us, u.2.2.length ≤ 60) ∧
  ∀ (r : Addr) H', H r = none → H' r = some (.lst ((houseBy ow us.us o).map nV)) → Kp [] H H' → Q (.ref r) H'
theorem rd_houseOf {C : Addr} {H : Hp} {Q : VK} {EE : XK} {p dx : Addr} {fl : List (Str × V)} {lo lf du : Addr} {ow : List (Option Nat)} {us : Ua} {o : Option Nat} (S : SAt H C p dx fl lo lf du ow (us.map fun u => u.1) us) (l : ow.length < 900) (l2 : us.length ≤ 60) (l3 : ∀ u ∈ us, u.2.2.length ≤ 60)
    (q : ∀ (r : Addr) H', H r = none → H' r = some (.lst ((houseBy ow us.us o).map nV)) → Kp [] H H' → Q (.ref r) H') : spHouseOf C (.ref p :: ([oV o] ++ [])) H Q EE := ⟨p, dx, fl, lo, lf, du, ow, us, o, rfl, S, l, l2, l3, q⟩
def srt (l : List Nat) : List Nat := l.mergeSort fun a b => decide (a ≤ b)
theorem srt_perm (l : List Nat) : (srt l).Perm l := List.mergeSort_perm _ _
theorem srt_pair (l : List Nat) : (srt l).Pairwise (· ≤ ·) := by
  have h := List.pairwise_mergeSort (le := fun a b : Nat => decide (a ≤ b)) (fun a b c h1 h2 => by simp at *; omega) (fun a b => by simp; omega) l
  exact h.imp fun h => of_decide_eq_true h
theorem srt_int {l : List Nat} {ns : List Int} (p : ns.Perm (l.map fun n : Nat => (n : Int))) (q : ns.Pairwise (· ≤ ·)) : ns = (srt l).map fun n : Nat => (n : Int) :=
  List.Perm.eq_of_pairwise (le := (· ≤ ·)) (fun a b _ _ h1 h2 => Int.le_antisymm h1 h2) q ((srt_pair l).map _ fun _ _ h => Int.ofNat_le.mpr h) (p.trans ((srt_perm l).map _).symm)
/-- what uses tells -/
def RU (H : Hp) (u : Nat × List Nat) (v : V) : Prop := ∃ t a, v = .ref t ∧ H t = some (.tup [nV u.1, .ref a]) ∧ H a = some (.lst (u.2.map nV))
def R2 {α : Type} (R : α → V → Prop) : List α → List V → Prop
  | [], [] => True
  | u :: us, v :: vs => R u v ∧ R2 R us vs
  | _, _ => False
theorem R2.imp {α : Type} {R R' : α → V → Prop} (h : ∀ u v, R u v → R' u v) : ∀ {us : List α} {vs : List V}, R2 R us vs → R2 R' us vs
  | [], [], _ => trivial
  | _ :: _, _ :: _, ⟨q, r⟩ => ⟨h _ _ q, R2.imp h r⟩
theorem R2.snoc {α : Type} {R : α → V → Prop} {u : α} {v : V} : ∀ {us : List α} {vs : List V}, R2 R us vs → R u v → R2 R (us ++ [u]) (vs ++ [v])
  | [], [], _, h => ⟨h, trivial⟩
  | _ :: _, _ :: _, ⟨h, r⟩, q => ⟨h, R2.snoc r q⟩
theorem R2.length {α : Type} {R : α → V → Prop} : ∀ {us : List α} {vs : List V}, R2 R us vs → us.length = vs.length
  | [], [], _ => rfl
  | _ :: _, _ :: _, ⟨_, r⟩ => by rw [List.length_cons, List.length_cons, R2.length r]
abbrev RUs (H : Hp) : List (Nat × List Nat) → List V → Prop := R2 (RU H)
theorem RU.keep0 {H H' : Hp} {u : Nat × List Nat} {v : V} (k : Kp [] H H') : RU H u v → RU H' u v := fun ⟨t, a, e, h1, h2⟩ => ⟨t, a, e, k.tup _ _ h1, k.keep _ _ h2 ne_mem0⟩
theorem RUs.keep0 {H H' : Hp} (k : Kp [] H H') {us : List (Nat × List Nat)} {vs : List V} (h : RUs H us vs) : RUs H' us vs := h.imp fun _ _ q => q.keep0 k
def RUx (D : Addr) (H : Hp) (u : Nat × List Nat) (v : V) : Prop := ∃ t a, v = .ref t ∧ H t = some (.tup [nV u.1, .ref a]) ∧ H a = some (.lst (u.2.map nV)) ∧ a ≠ D
def spUses : Sp := fun vs H Q _ => ∃ (e : E) (v : V), vs = [v] ∧ RE H e v ∧ e.Wf [] ∧ e.depth ≤ 7 ∧ e.size ≤ 60 ∧
  ∀ (r : Addr) (ws : List V) H', H r = none → H' r = some (.lst ws) → RUs H' ((mU e sc0 0 [] []).map fun u => (u.1, srt u.2)) ws → Kp [] H H' → Q (.ref r) H'
theorem rd_uses {H : Hp} {e : E} {v : V} {Q : VK} {EE : XK} (h : RE H e v) (w : e.Wf []) (d : e.depth ≤ 7) (z : e.size ≤ 60)
    (k : ∀ (r : Addr) (ws : List V) H', H r = none → H' r = some (.lst ws) → RUs H' ((mU e sc0 0 [] []).map fun u => (u.1, srt u.2)) ws → Kp [] H H' → Q (.ref r) H') : spUses ([v] ++ []) H Q EE := ⟨e, v, rfl, h, w, d, z, k⟩
section
variable {P : Program} {w : World} {K : PySem.W.Frag} {mg : Str → Option Value} {base : Heap} {a_SHAPES C_Sites : Addr}
theorem ok_Sites_house_of {f : Addr} {fd : FuncData} (A : AtM K C_Sites "house_of" "Sites.house_of" s_Sites_house_of ["self", "owner"] f fd) (T : TxtP K w mg a_SHAPES C_Sites) (c_Sites_sites_of : HasM P w K mg base C_Sites "sites_of" ["self", "owner"] 1 (spSitesOf C_Sites)) :
    HasM P w K mg base C_Sites "house_of" ["self", "owner"] 2 (spHouseOf C_Sites) := by
  obtain ⟨f_Sites_sites_of, fd_Sites_sites_of, G_Sites_sites_of, me_Sites_sites_of, b_Sites_sites_of⟩ := c_Sites_sites_of
  refine ⟨f, fd, A.F.ok sc_Sites_house_of (fun vs H Q EE h => ?_) (fun cdv A outer s H vs Q EE hr h => ?_), A.m, A.b⟩
  · obtain ⟨_, _, _, _, _, _, _, _, _, rfl, _⟩ := h
    rfl
  obtain ⟨p, dx, fl, lo, lf, du, ow, us, o, rfl, S, hl, hl2, hl3, q⟩ := h
  have hu := hu_of hr
  have cl := T.cl_Sites
  have n1 := T.n_owners
  have n2 := T.n_funs
  have n3 := T.n_used
  obtain ⟨fo, ff, fU, m1, m2, m3, m4⟩ := S.fl
  have hob := S.ob
  have hlf := S.hf
  refine ⟨_, (pss_cons (ps_set (i := 2) sc_Sites_house_of.nd rfl (Or.inr rfl) (pe_lst pa_nil))
      (pss_cons (ps_for PassesOwn.never rfl (w_piL (K := K) rfl (w_fld (K := K) rfl (pv 0) rfl)) (pg_name (i := 3) sc_Sites_house_of.nd rfl (Or.inl rfl))
        (pss_one (ps_expr (pe_bm PySem.F.plainAttrs_list PySem.F.slot_list_extend PySem.F.type_list_extend mt_extend (pv 2) (pa_cons (pe_dget hu (w_fld (K := K) rfl (pv 0) rfl) (pv 3) (fun _ _ => rfl)) pa_nil)))))
      (pss_one (ps_ret (pe_lc (own := [("site", 4)]) (g := (gName 4)) (tt := _) rfl sc_Sites_house_of.nd (w_piL (K := K) rfl (pe_meth (pv 0) T.cl_Sites me_Sites_sites_of G_Sites_sites_of (hr.mono (by first | decide | omega)) b_Sites_sites_of .nil pass0 (pa_cons (pv 1) pa_nil))) (blkOk_by (own := [("site", 4)]) (N := N_Sites_house_of) (sc := defScope s_Sites_house_of) (by decide +kernel)) (fun _ _ _ _ _ => (pg_name (i := 4) sc_Sites_house_of.nd rfl (Or.inl rfl))) (fun _ _ _ _ _ => pts_one (pt_cmpR (w_in (K := K) rfl) (pv 4) (pv 2) rfl)) (fun _ _ _ _ _ => (pv 4))))))), ?_⟩
  refine at_st (σ' := [some (.ref p), some (oV o), none, none, none]) rfl ?_
  walk_at "go"
  rename_i sm H1 nsm k1 h1
  refine for_list (K := K) (a := lf) (xs := (us.map fun u => u.1).map nV) (fun i σ' H' => ∃ v3 : Option V, σ' = [some (.ref p), some (oV o), some (.ref sm), v3, none] ∧ H' sm = some (.lst (((us.take i).flatMap fun u => u.2.2).map nV)) ∧ Kp [] H H') ⟨none, rfl, by rw [List.take_zero]; exact h1, k1⟩ ?_ ?_ ?_
  · rintro i _ H' _ ⟨v3, rfl, h2, k2⟩
    exact SqL.of (k2.keep _ _ hlf ne_mem0)
  · rintro i y _ H' hi ⟨v3, rfl, h2, k2⟩
    obtain ⟨u, hui, rfl⟩ : ∃ u, us[i]? = some u ∧ y = nV u.1 := by
      rw [List.getElem?_map, List.getElem?_map] at hi
      cases e : us[i]? with
      | none => rw [e] at hi; cases hi
      | some u => rw [e] at hi; exact ⟨u, rfl, (Option.some.inj hi).symm⟩
    have hum : u ∈ us := List.mem_of_getElem? hui
    have S2 := S.keep0 k2
    have hob2 := S2.ob
    have hu2 := S2.hu
    have hl2' := S2.hl u hum
    have hval := valU S2.ks hum
    refine rd_name ?_
    walk_at "go"
    refine rd_ext h2 hl2' ?_ fun H3 k3 h3 => ?_
    · rw [List.length_map, List.length_map]
      have hb : ∀ l : Ua, (∀ u ∈ l, u.2.2.length ≤ 60) → (l.flatMap fun u => u.2.2).length ≤ 60 * l.length := by
        intro l
        induction l with
        | nil => intro _; exact Nat.le_refl _
        | cons x r ih =>
          intro h
          have h1 := ih fun u hu => h u (List.mem_cons_of_mem _ hu)
          have h2 := h x List.mem_cons_self
          rw [List.flatMap_cons, List.length_append, List.length_cons]
          omega
      have h1 := hb (us.take i) fun u hu => hl3 u (List.mem_of_mem_take hu)
      have h2 := hl3 u hum
      have h3 : (us.take i).length ≤ us.length := by rw [List.length_take]; omega
      omega
    · refine ⟨_, rfl, ?_, k2.chg nsm k3⟩
      rw [h3, take_at hui, List.flatMap_append, List.map_append]
      simp
  · rintro _ H' ⟨v3, rfl, h2, k2⟩
    have S2 := S.keep0 k2
    have hob2 := S2.ob
    rw [List.length_map, List.length_map, List.take_length] at h2
    walk_at "go"
    refine rd_sitesOf S2 hl fun r H3 nr h3 k3 => ?_
    walk_at "go"
    intro D hD
    refine lc_filt (ns := sitesBy ow o) (housed us.us) hD (SqL.of h3) ?_ (fun n hn H4 k4 Qy Qn qy qn => ?_) fun H4 k4 h4 => ?_
    · unfold sitesBy
      have := List.length_filter_le (fun s => decide (ow[s]? = some o)) (List.range ow.length)
      rw [List.length_range] at this
      omega
    · have h5 := k4.keep _ _ (k3.keep _ _ h2 ne_mem0) ne_mem0
      have he : decide (n ∈ us.flatMap fun u => u.2.2) = housed us.us n := by
        unfold housed Ua.us
        rw [List.any_map, Bool.eq_iff_iff]
        simp [List.mem_flatMap]
      refine rd_name ⟨rfl, ?_⟩
      walk_at "go"
      refine rd_in (SqL.of h5) rfl (flat_nV _) ?_
      rw [inV_nV, he]
      walk_at "go"
      refine ite2 (fun c => ?_) (fun c => ?_)
      · walk_at "go"
        exact qy c _ Kp.refl
      · exact qn (by simpa using c) _ Kp.refl
    · exact q D H4 ((k2.trans k3).free hD) h4 ((k2.trans k3).trans k4)
end
end EW

end
section
open PySem L2 EW
local macro_rules | `(tactic| walk_at "ne") => `(tactic| first
  | assumption
  | exact Ne.symm (by assumption)
  | ((with_reducible refine' EW.RowAt.newne ?n ?h); (case n => assumption); (case h => walk_at "hp"))
  | ((with_reducible refine' Ne.symm (EW.RowAt.newne ?n ?h)); (case n => assumption); (case h => walk_at "hp"))
  | ((with_reducible refine' EW.BoxAt.newne ?n ?h); (case n => assumption); (case h => walk_at "hp"))
  | ((with_reducible refine' Ne.symm (EW.BoxAt.newne ?n ?h)); (case n => assumption); (case h => walk_at "hp")))
local macro_rules | `(tactic| walk_at "ns") => `(tactic| first
  | assumption
  | exact EW.RowAt.ne (by assumption)
  | ((with_reducible refine' EW.RowAt.notin ?n ?h); (case n => assumption); (case h => walk_at "hp")))
local macro_rules | `(tactic| walk_at "ni") => `(tactic| first
  | with_reducible exact EW.ne_mem0
  | with_reducible exact EW.dis0
  | ((with_reducible refine' EW.ne_mem1 ?h); (case h => walk_at "ne"))
  | ((with_reducible refine' EW.ne_mem2 ?h ?g); (case h => walk_at "ne"); (case g => walk_at "ne"))
  | ((with_reducible refine' EW.dis1 ?h); (case h => walk_at "ns"))
  | ((with_reducible refine' EW.dis2 ?h ?g); (case h => walk_at "ns"); (case g => walk_at "ns")))
local macro_rules | `(tactic| walk_at "hp") => `(tactic| first
  | assumption
  | ((with_reducible refine' EW.RE.mono (EW.Kp.tup ?k) ?h); (case k => assumption); (case h => walk_at "hp"))
  | ((with_reducible refine' EW.Kp.tup ?k _ _ ?h); (case k => assumption); (case h => walk_at "hp"))
  | ((with_reducible refine' EW.kp_tup ?k ?h); (case k => assumption); (case h => walk_at "hp"))
  | ((with_reducible refine' EW.Kp.keep ?k _ _ ?h ?n); (case k => assumption); (case h => walk_at "hp"); (case n => walk_at "ni"))
  | ((with_reducible refine' EW.Kp.seqL ?k ?h ?n); (case k => assumption); (case h => walk_at "hp"); (case n => walk_at "ni"))
  | ((with_reducible refine' EW.RowAt.keep ?k ?h ?n1 ?n2); (case k => assumption); (case h => walk_at "hp"); (case n1 => walk_at "ni"); (case n2 => walk_at "ni"))
  | ((with_reducible refine' EW.ScAt.keep ?k ?h ?n); (case k => assumption); (case h => walk_at "hp"); (case n => walk_at "ni"))
  | ((with_reducible refine' EW.BoxAt.keep ?k ?h ?n); (case k => assumption); (case h => walk_at "hp"); (case n => walk_at "ni"))
  | ((with_reducible refine' L2.SqL.of ?h); (case h => walk_at "hp"))
  | ((with_reducible refine' L2.SqT.of ?h); (case h => walk_at "hp")))
local macro_rules | `(tactic| walk_at "sb") => `(tactic| first
  | exact EW.sub0
  | exact EW.sub_refl
  | exact EW.sub_l
  | exact EW.sub_r)
local macro_rules | `(tactic| walk_at "kp") => `(tactic| first
  | exact EW.Kp.refl
  | assumption
  | ((with_reducible refine' EW.Kp.trans ?h (EW.Kp.mono ?k ?s)); (case k => assumption); (case s => walk_at "sb"); (case h => walk_at "kp")))
local macro_rules | `(tactic| walk_at "st") => `(tactic| first
  | with_reducible refine rd_seq ?_
  | with_reducible refine rd_next ?_
  | with_reducible refine rd_asg ?_
  | with_reducible refine rd_name ?_
  | with_reducible refine rd_ret ?_
  | with_reducible refine rd_drop ?_
  | ((with_reducible refine' rd_var ?e ?_); (case e => first | with_reducible assumption | exact rfl | assumption))
  | with_reducible refine rd_c ?_
  | with_reducible refine rd_op ?_
  | with_reducible refine rd_I0 ?_
  | with_reducible refine rd_test ?_
  | with_reducible refine rd_tB ?_
  | with_reducible refine rd_not ?_
  | with_reducible refine rd_and ?_
  | with_reducible refine rd_or ?_
  | with_reducible refine rd_ifE ?_
  | with_reducible refine rd_notV ?_
  | with_reducible refine rd_andV ?_
  | with_reducible refine rd_orV ?_
  | with_reducible refine rd_cons ?_
  | with_reducible refine EW.rd_par ?_
  | with_reducible refine EW.rd_par2 ?_
  | with_reducible refine EW.rd_parT ?_
  | with_reducible refine EW.rd_par3 ?_
  | with_reducible refine rd_nil ?_
  | with_reducible refine rd_cb ?_
  | with_reducible refine rd_call ?_
  | with_reducible refine rd_meth ?_
  | with_reducible refine rd_sub ?_
  | with_reducible refine rd_fl ?_
  | with_reducible refine rd_tup ?_
  | with_reducible refine rd_lst ?_
  | with_reducible refine rd_sl ?_
  | with_reducible refine rd_part ?_
  | with_reducible refine rd_partI ?_
  | with_reducible refine rd_nopart ?_
  | with_reducible refine rd_yes ?_
  | with_reducible refine rd_dnewK ?_
  | with_reducible refine rd_dnewT ?_
  | ((with_reducible refine' rd_isT ?h ?_); (case h => walk_at "hp"))
  | with_reducible refine rd_isI ?_
  | with_reducible refine rd_isII ?_
  | with_reducible refine rd_isIB ?_
  | ((with_reducible refine' rd_sum ?h ?_); (case h => walk_at "hp"))
  | ((with_reducible refine' rd_tail ?h ?_); (case h => walk_at "hp"))
  | ((with_reducible refine rd_newO ?_); intro _ _ _ _ _)
  | ((with_reducible refine' rd_lenS ?l ?_); (case l => exact rfl))
  | ((with_reducible refine' rd_ixS ?l ?e ?_); (case l => exact rfl); (case e => first | assumption | with_reducible exact EW.at_head | exact rfl))
  | with_reducible refine EW.ite_dT (by decide +kernel) ?_
  | with_reducible refine EW.ite_dF (by decide +kernel) ?_
  | with_reducible refine EW.ite_nT (by decide +kernel) ?_
  | with_reducible refine EW.ite_nF (by decide +kernel) ?_
  | with_reducible refine EW.iteNF ?_
  | with_reducible refine EW.iteNT ?_
  | with_reducible refine EW.iteEC ?_
  | with_reducible refine EW.iteEN ?_
  | with_reducible refine EW.iteNC ?_
  | with_reducible refine EW.iteNN ?_
  | with_reducible refine EW.rd_kget (by assumption) ?_
  | with_reducible refine EW.rd_kgx (by assumption) _ ?_
  | with_reducible refine EW.rd_ixD (by assumption) _ ?_
  | with_reducible refine EW.rd_chain ?_
  | with_reducible refine L2.iteT ?_
  | with_reducible refine L2.iteF ?_
  | with_reducible refine rd_bm ?_
  | with_reducible refine rd_bm0 ?_
  | with_reducible refine rd_sfld ?_
  | with_reducible refine rd_make ?_
  | ((with_reducible refine' rd_bmL ?s ?_); (case s => walk_at "hp"))
  | ((with_reducible refine' rd_bm0L ?s ?_); (case s => walk_at "hp"))
  | ((with_reducible refine' rd_mex ?s ?l ?_); (case s => walk_at "hp"); (case l => assumption))
  | with_reducible refine rd_lc ?_
  | with_reducible refine rd_for ?_
  | with_reducible refine rd_il ?_
  | with_reducible refine rd_it ?_
  | with_reducible refine rd_ir ?_
  | with_reducible refine rd_dput ?_
  | with_reducible refine rd_dget ?_
  | ((with_reducible refine' rd_ilx ?s ?_); (case s => walk_at "hp"))
  | ((with_reducible refine' rd_itx ?s ?_); (case s => walk_at "hp"))
  | ((with_reducible refine' rd_getK ?s ?e ?_); (case s => walk_at "hp"); (case e => assumption))
  | ((with_reducible refine rd_newT rfl ?_); intro _ _ _ _ _)
  | ((with_reducible refine rd_newL rfl ?_); intro _ _ _ _ _)
  | ((with_reducible refine' rd_taken ?a ?b ?c ?_); (case a => walk_at "hp"); (case b => first | omega | decide); (case c => first | omega | decide); intro _ _ _ _ _)
  | ((with_reducible refine' rd_neE ?a ?b ?_); (case a => walk_at "hp"); (case b => walk_at "hp"))
  | ((with_reducible refine' rd_eqE ?a ?b ?_); (case a => walk_at "hp"); (case b => walk_at "hp"))
  | with_reducible refine rd_eq rfl ?_
  | with_reducible refine rd_ne rfl ?_
  | with_reducible refine rd_bl ?_
  | ((with_reducible refine rd_I ?c ?_); (case c => first | assumption | omega | decide | (exact Or.inl ⟨by omega, by omega⟩) | (exact ⟨by omega, by omega⟩) | (exact ⟨by decide, by decide, by decide⟩)))
  | refine Or.inl ⟨_, rfl, ?_⟩
  | refine Or.inr ⟨_, rfl, ?_⟩
  | ((with_reducible refine' rd_lenL ?s ?_); (case s => walk_at "hp"))
  | ((with_reducible refine' rd_lenT ?s ?_); (case s => walk_at "hp"))
  | ((with_reducible refine' rd_ixL ?s ?e ?_); (case s => walk_at "hp"); (case e => first | assumption | with_reducible exact EW.at_head | exact rfl))
  | ((with_reducible refine' rd_ixT ?s ?e ?_); (case s => walk_at "hp"); (case e => first | assumption | with_reducible exact EW.at_head | exact rfl))
  | ((with_reducible refine' rd_flx ?s ?c ?n ?l ?_); (case s => walk_at "hp"); (case c => assumption); (case n => assumption); (case l => assumption)))
local macro_rules | `(tactic| walk_at "go") => `(tactic| repeat (walk_at "st"))
local macro_rules | `(tactic| walk_at "gi") => `(tactic| repeat (first | with_reducible refine rd_if ?_ | walk_at "st"))
namespace EW
open PySem L2
/-- a class of the program's own, for isinstance -/
structure OwnC (K : PySem.W.Frag) (C : Addr) : Prop where
  cl : Cls K C
  ha : PySem.W.findIn K (.ref C) "__class__" = some (some (.builtin "object.__class__"))
  hn : PySem.W.specialIn K (.builtin "object.__class__") "__get__" = some (some (.builtin "getset_descriptor.__get__"))
  ht : PySem.W.takesIn K (.builtin "object.__class__") = some true
  hm : PySem.W.mroIn K C (.type "object") = some true
  k1 : PySem.W.kitOne K (.ref C) (.ref C) = some true
  k0 : PySem.W.kitOne K (.type "int") (.ref C) = some false
theorem rd_isF1 {K : PySem.W.Frag} {H : Hp} {C p dx : Addr} {fs : List (Str × V)} {Q : VK} (c : OwnC K C) (h : H p = some (.ins C dx fs)) (q : Q (.bl true) H) : rIsi K [.ref p, .ref C] H Q :=
  ⟨_, _, .ref C, .ref C, true, rfl, .own _, .base (.ins h c.cl c.ha c.hn c.ht c.hm), c.k1, q⟩
theorem rd_isF0 {K : PySem.W.Frag} {H : Hp} {C : Addr} {n : Int} {Q : VK} (c : OwnC K C) (q : Q (.bl false) H) : rIsi K [.int n, .ref C] H Q :=
  ⟨_, _, .type "int", .ref C, false, rfl, .own _, .base (.int n), c.k0, q⟩
/-- what the top has of running.py -/
structure TxtR (K : PySem.W.Frag) (w : World) (mg : Str → Option Value) (sh C CR CF : Addr) : Prop extends TxtP K w mg sh C where
  m_Run : mg "Run" = some (.ref CR)
  m_Function : mg "Function" = some (.ref CF)
  m_MOST_BEGUN : ∃ t, mg "MOST_BEGUN" = some (.int 60 t)
  own_F : OwnC K CF
  cl_Run : Cls K CR
  cl_Function : Cls K CF
  n_r : ∀ f ∈ ([("sites" : Str), "left", "owners", "ups", "worths", "looks", "made", "work", "results", "outcome", "result"] : List Str), NoAttr K CR f
  n_f : ∀ f ∈ ([("site" : Str), "body", "made_by"] : List Str), NoAttr K CF f
/-! ### values, tasks, looks, bindings in the heap -/
def fnF (s : Nat) (y : V) (u : Nat) : List (Str × V) := [("site", nV s), ("body", y), ("made_by", nV u)]
def RW (CF : Addr) (H : Hp) : Wo → V → Prop
  | .int n, v => v = nV n
  | .clo s b u, v => ∃ a dx y, v = .ref a ∧ H a = some (.ins CF dx (fnF s y u)) ∧ RE H b y
def RT (H : Hp) : Tk → V → Prop
  | .run e h, v => ∃ t y, v = .ref t ∧ H t = some (.tup [.str "do", y, nV h]) ∧ RE H e y
  | .plus, v => ∃ t, v = .ref t ∧ H t = some (.tup [.str "plus"])
  | .bind s e h, v => ∃ t y, v = .ref t ∧ H t = some (.tup [.str "bind", nV s, y, nV h]) ∧ RE H e y
  | .ite a b h, v => ∃ t x y, v = .ref t ∧ H t = some (.tup [.str "if", x, y, nV h]) ∧ RE H a x ∧ RE H b y
  | .call, v => ∃ t, v = .ref t ∧ H t = some (.tup [.str "call"])
def RL (H : Hp) (l : Nat × Nat × Nat) (v : V) : Prop := ∃ t b, v = .ref t ∧ H t = some (.tup [nV l.1, .ref b]) ∧ H b = some (.tup [nV l.2.1, nV l.2.2])
def kW (p : Nat × Nat) : List Key := [Sum.inl (p.1 : Int), Sum.inl (p.2 : Int)]
def RWo (CF : Addr) (H : Hp) : List ((Nat × Nat) × Wo) → List (List Key × V) → Prop
  | [], [] => True
  | w :: ws, k :: ks => k.1 = kW w.1 ∧ RW CF H w.2 k.2 ∧ RWo CF H ws ks
  | _, _ => False
theorem kW_inj {p q : Nat × Nat} (h : kW p = kW q) : p = q := by
  unfold kW at h
  have h1 := List.cons.inj h
  have h2 := List.cons.inj h1.2
  exact Prod.ext (Int.ofNat.inj (Sum.inl.inj h1.1)) (Int.ofNat.inj (Sum.inl.inj h2.1))
/-- no function stands at M -/
def NoF (CF : Addr) (H : Hp) (M : List Addr) : Prop := ∀ m ∈ M, ∀ d s y u, H m ≠ some (.ins CF d (fnF s y u))
theorem NoF.nil {CF : Addr} {H : Hp} : NoF CF H [] := fun _ h => nomatch h
theorem RW.keep {CF : Addr} {H H' : Hp} {M : List Addr} (k : Kp M H H') (n : NoF CF H M) : ∀ {w : Wo} {v : V}, RW CF H w v → RW CF H' w v
  | .int _, _, h => h
  | .clo _ _ _, _, ⟨a, dx, y, e, h, r⟩ => ⟨a, dx, y, e, k.keep _ _ h fun z => n a z _ _ _ _ h, r.mono k.tup⟩
theorem RT.mono {H H' : Hp} (t : Tups H H') : ∀ {w : Tk} {v : V}, RT H w v → RT H' w v
  | .run _ _, _, ⟨a, y, e, h, r⟩ => ⟨a, y, e, t _ _ h, r.mono t⟩
  | .plus, _, ⟨a, e, h⟩ => ⟨a, e, t _ _ h⟩
  | .bind _ _ _, _, ⟨a, y, e, h, r⟩ => ⟨a, y, e, t _ _ h, r.mono t⟩
  | .ite _ _ _, _, ⟨a, x, y, e, h, r, q⟩ => ⟨a, x, y, e, t _ _ h, r.mono t, q.mono t⟩
  | .call, _, ⟨a, e, h⟩ => ⟨a, e, t _ _ h⟩
theorem RL.mono {H H' : Hp} (t : Tups H H') {l : Nat × Nat × Nat} {v : V} : RL H l v → RL H' l v := fun ⟨a, b, e, h, g⟩ => ⟨a, b, e, t _ _ h, t _ _ g⟩
theorem RWo.imp {CF : Addr} {H H' : Hp} (h : ∀ w v, RW CF H w v → RW CF H' w v) : ∀ {ws : List ((Nat × Nat) × Wo)} {ks : List (List Key × V)}, RWo CF H ws ks → RWo CF H' ws ks
  | [], [], _ => trivial
  | _ :: _, _ :: _, ⟨e, q, r⟩ => ⟨e, h _ _ q, RWo.imp h r⟩
theorem RWo.get {CF : Addr} {H : Hp} {p : Nat × Nat} {w : Wo} : ∀ {ws : List ((Nat × Nat) × Wo)} {ks : List (List Key × V)}, RWo CF H ws ks → ws.lookup p = some w → ∃ v, valV ks (kW p) = some v ∧ RW CF H w v
  | [], [], _, h => by cases h
  | (q, x) :: ws, (k, v) :: ks, ⟨e, hx, r⟩, h => by
    have e' : k = kW q := e
    subst e'
    rw [List.lookup_cons] at h
    by_cases c : p = q
    · subst c
      rw [beq_self_eq_true] at h
      have : x = w := Option.some.inj h
      subst this
      exact ⟨v, valV_pos rfl, hx⟩
    · have : (p == q) = false := beq_eq_false_iff_ne.mpr c
      rw [this] at h
      obtain ⟨v', h1, h2⟩ := RWo.get r h
      exact ⟨v', by rw [valV_neg (fun z => c (kW_inj z).symm)]; exact h1, h2⟩
theorem RWo.none {CF : Addr} {H : Hp} {p : Nat × Nat} : ∀ {ws : List ((Nat × Nat) × Wo)} {ks : List (List Key × V)}, RWo CF H ws ks → ws.lookup p = none → valV ks (kW p) = none
  | [], [], _, _ => rfl
  | (q, x) :: ws, (k, v) :: ks, ⟨e, hx, r⟩, h => by
    have e' : k = kW q := e
    subst e'
    rw [List.lookup_cons] at h
    by_cases c : p = q
    · subst c
      rw [beq_self_eq_true] at h
      cases h
    · have : (p == q) = false := beq_eq_false_iff_ne.mpr c
      rw [this] at h
      rw [valV_neg (fun z => c (kW_inj z).symm)]
      exact RWo.none r h
theorem RWo.snoc {CF : Addr} {H : Hp} {p : Nat × Nat} {w : Wo} {v : V} (q : RW CF H w v) : ∀ {ws : List ((Nat × Nat) × Wo)} {ks : List (List Key × V)}, RWo CF H ws ks → RWo CF H (ws ++ [(p, w)]) (ks ++ [(kW p, v)])
  | [], [], _ => ⟨rfl, q, trivial⟩
  | _ :: _, _ :: _, ⟨e, h, r⟩ => ⟨e, h, RWo.snoc q r⟩
theorem RWo.length {CF : Addr} {H : Hp} : ∀ {ws : List ((Nat × Nat) × Wo)} {ks : List (List Key × V)}, RWo CF H ws ks → ws.length = ks.length
  | [], [], _ => rfl
  | _ :: _, _ :: _, ⟨_, _, r⟩ => by rw [List.length_cons, List.length_cons, RWo.length r]
theorem R2.last {α : Type} {R : α → V → Prop} {u : α} : ∀ {us : List α} {vs : List V}, R2 R (us ++ [u]) vs → ∃ vs' v, vs = vs' ++ [v] ∧ R2 R us vs' ∧ R u v
  | [], [], h => h.elim
  | [], [v], ⟨h, _⟩ => ⟨[], v, rfl, trivial, h⟩
  | [], _ :: _ :: _, ⟨_, h⟩ => h.elim
  | _ :: _, [], h => h.elim
  | x :: us, y :: vs, ⟨h, r⟩ => by
    obtain ⟨vs', v, e, h1, h2⟩ := R2.last r
    exact ⟨y :: vs', v, by rw [e]; rfl, ⟨h, h1⟩, h2⟩
/-! ### a run -/
structure RA where
  p : Addr
  dx : Addr
  x : Addr
  lo : Addr
  lu : Addr
  dw : Addr
  ll : Addr
  lm : Addr
  lw : Addr
  lr : Addr
def runF (A : RA) (left : Nat) (ov : V) : List (Str × V) := [("sites", .ref A.x), ("left", nV left), ("owners", .ref A.lo), ("ups", .ref A.lu), ("worths", .ref A.dw), ("looks", .ref A.ll), ("made", .ref A.lm), ("work", .ref A.lw), ("results", .ref A.lr), ("outcome", ov)]
def RA.M (A : RA) : List Addr := [A.p, A.lo, A.lu, A.dw, A.ll, A.lm, A.lw, A.lr]
structure RunAt (CR CF : Addr) (H : Hp) (A : RA) (M : MS) (ov : V) (kvs : List (List Key × V)) (ls ws rs : List V) : Prop where
  ob : H A.p = some (.ins CR A.dx (runF A M.left ov))
  ho : H A.lo = some (.lst (M.lg.ow.map oV))
  hu : H A.lu = some (.lst (M.lg.up.map oV))
  hw : H A.dw = some (.dT kvs)
  hl : H A.ll = some (.lst ls)
  hm : H A.lm = some (.lst (M.lg.md.map nV))
  hk : H A.lw = some (.lst ws)
  hr : H A.lr = some (.lst rs)
  nd : [A.lo, A.lu, A.ll, A.lm, A.lw, A.lr].Nodup
  rw_ : RWo CF H M.lg.wo kvs
  rl : R2 (RL H) M.lg.lk ls
  rk : R2 (RT H) M.wk ws
  rr : R2 (RW CF H) M.rs rs
/-- the sites' object as the run sees it -/
structure SiAt (CS : Addr) (H : Hp) (A : RA) (dxs : Addr) (fl : List (Str × V)) (lo : Addr) (os : List (Option Nat)) : Prop where
  ob : H A.x = some (.ins CS dxs fl)
  fo : fl.lookup ("owners" : Str) = some (.ref lo)
  ho : H lo = some (.lst (os.map oV))
  n1 : A.x ∉ A.M
  n2 : lo ∉ A.M
theorem SiAt.keep {CS : Addr} {H H' : Hp} {A : RA} {dxs : Addr} {fl : List (Str × V)} {lo : Addr} {os : List (Option Nat)} (k : Kp A.M H H') (s : SiAt CS H A dxs fl lo os) : SiAt CS H' A dxs fl lo os :=
  ⟨k.keep _ _ s.ob s.n1, s.fo, k.keep _ _ s.ho s.n2, s.n1, s.n2⟩
section
variable {CR CF : Addr} {H H' : Hp} {A : RA} {M : MS} {ov : V} {kvs : List (List Key × V)} {ls ws rs : List V}
/-- what the pieces' places are not -/
structure NEs (A : RA) : Prop where
  p1 : A.p ≠ A.lo ∧ A.p ≠ A.lu ∧ A.p ≠ A.dw ∧ A.p ≠ A.ll ∧ A.p ≠ A.lm ∧ A.p ≠ A.lw ∧ A.p ≠ A.lr
  p2 : A.lo ≠ A.lu ∧ A.lo ≠ A.dw ∧ A.lo ≠ A.ll ∧ A.lo ≠ A.lm ∧ A.lo ≠ A.lw ∧ A.lo ≠ A.lr
  p3 : A.lu ≠ A.dw ∧ A.lu ≠ A.ll ∧ A.lu ≠ A.lm ∧ A.lu ≠ A.lw ∧ A.lu ≠ A.lr
  p4 : A.dw ≠ A.ll ∧ A.dw ≠ A.lm ∧ A.dw ≠ A.lw ∧ A.dw ≠ A.lr
  p5 : A.ll ≠ A.lm ∧ A.ll ≠ A.lw ∧ A.ll ≠ A.lr
  p6 : A.lm ≠ A.lw ∧ A.lm ≠ A.lr
  p7 : A.lw ≠ A.lr
theorem RunAt.nes (h : RunAt CR CF H A M ov kvs ls ws rs) : NEs A := by
  have nd := h.nd
  simp only [List.nodup_cons, List.mem_cons, List.not_mem_nil, or_false, not_or] at nd
  obtain ⟨⟨a1, a2, a3, a4, a5⟩, ⟨b1, b2, b3, b4⟩, ⟨c1, c2, c3⟩, ⟨d1, d2⟩, e1, _⟩ := nd
  exact ⟨⟨ne_of h.ob h.ho (fun z => nomatch z), ne_of h.ob h.hu (fun z => nomatch z), ne_of h.ob h.hw (fun z => nomatch z), ne_of h.ob h.hl (fun z => nomatch z), ne_of h.ob h.hm (fun z => nomatch z), ne_of h.ob h.hk (fun z => nomatch z), ne_of h.ob h.hr (fun z => nomatch z)⟩,
    ⟨a1, ne_of h.ho h.hw (fun z => nomatch z), a2, a3, a4, a5⟩, ⟨ne_of h.hu h.hw (fun z => nomatch z), b1, b2, b3, b4⟩,
    ⟨ne_of h.hw h.hl (fun z => nomatch z), ne_of h.hw h.hm (fun z => nomatch z), ne_of h.hw h.hk (fun z => nomatch z), ne_of h.hw h.hr (fun z => nomatch z)⟩, ⟨c1, c2, c3⟩, ⟨d1, d2⟩, e1⟩
theorem runF_ne (s : Nat) (y : V) (u left : Nat) : runF A left ov ≠ fnF s y u := fun z => by
  have := congrArg List.length z
  simp [runF, fnF] at this
theorem RunAt.nof (h : RunAt CR CF H A M ov kvs ls ws rs) : NoF CF H A.M := by
  intro m hm d s y u e
  unfold RA.M at hm
  simp only [List.mem_cons, List.not_mem_nil, or_false] at hm
  rcases hm with rfl | rfl | rfl | rfl | rfl | rfl | rfl | rfl
  · rw [h.ob] at e
    have := Option.some.inj e
    injection this with _ _ e3
    exact runF_ne _ _ _ _ e3
  · rw [h.ho] at e; cases e
  · rw [h.hu] at e; cases e
  · rw [h.hw] at e; cases e
  · rw [h.hl] at e; cases e
  · rw [h.hm] at e; cases e
  · rw [h.hk] at e; cases e
  · rw [h.hr] at e; cases e
theorem NoF.sub {N L : List Addr} (h : NoF CF H N) (s : ∀ b ∈ L, b ∈ N) : NoF CF H L := fun m hm => h m (s m hm)
/-- new objects alone -/
theorem RunAt.keep0 (k : Kp [] H H') (h : RunAt CR CF H A M ov kvs ls ws rs) : RunAt CR CF H' A M ov kvs ls ws rs where
  ob := k.keep _ _ h.ob ne_mem0
  ho := k.keep _ _ h.ho ne_mem0
  hu := k.keep _ _ h.hu ne_mem0
  hw := k.keep _ _ h.hw ne_mem0
  hl := k.keep _ _ h.hl ne_mem0
  hm := k.keep _ _ h.hm ne_mem0
  hk := k.keep _ _ h.hk ne_mem0
  hr := k.keep _ _ h.hr ne_mem0
  nd := h.nd
  rw_ := h.rw_.imp fun _ _ q => q.keep k .nil
  rl := h.rl.imp fun _ _ q => q.mono k.tup
  rk := h.rk.imp fun _ _ q => q.mono k.tup
  rr := h.rr.imp fun _ _ q => q.keep k .nil
end
end EW

end
section
open PySem L2 EW
local macro_rules | `(tactic| walk_at "ne") => `(tactic| first
  | assumption
  | exact Ne.symm (by assumption)
  | ((with_reducible refine' EW.RowAt.newne ?n ?h); (case n => assumption); (case h => walk_at "hp"))
  | ((with_reducible refine' Ne.symm (EW.RowAt.newne ?n ?h)); (case n => assumption); (case h => walk_at "hp"))
  | ((with_reducible refine' EW.BoxAt.newne ?n ?h); (case n => assumption); (case h => walk_at "hp"))
  | ((with_reducible refine' Ne.symm (EW.BoxAt.newne ?n ?h)); (case n => assumption); (case h => walk_at "hp")))
local macro_rules | `(tactic| walk_at "ns") => `(tactic| first
  | assumption
  | exact EW.RowAt.ne (by assumption)
  | ((with_reducible refine' EW.RowAt.notin ?n ?h); (case n => assumption); (case h => walk_at "hp")))
local macro_rules | `(tactic| walk_at "ni") => `(tactic| first
  | with_reducible exact EW.ne_mem0
  | with_reducible exact EW.dis0
  | ((with_reducible refine' EW.ne_mem1 ?h); (case h => walk_at "ne"))
  | ((with_reducible refine' EW.ne_mem2 ?h ?g); (case h => walk_at "ne"); (case g => walk_at "ne"))
  | ((with_reducible refine' EW.dis1 ?h); (case h => walk_at "ns"))
  | ((with_reducible refine' EW.dis2 ?h ?g); (case h => walk_at "ns"); (case g => walk_at "ns")))
local macro_rules | `(tactic| walk_at "hp") => `(tactic| first
  | assumption
  | ((with_reducible refine' EW.RE.mono (EW.Kp.tup ?k) ?h); (case k => assumption); (case h => walk_at "hp"))
  | ((with_reducible refine' EW.Kp.tup ?k _ _ ?h); (case k => assumption); (case h => walk_at "hp"))
  | ((with_reducible refine' EW.kp_tup ?k ?h); (case k => assumption); (case h => walk_at "hp"))
  | ((with_reducible refine' EW.Kp.keep ?k _ _ ?h ?n); (case k => assumption); (case h => walk_at "hp"); (case n => walk_at "ni"))
  | ((with_reducible refine' EW.Kp.seqL ?k ?h ?n); (case k => assumption); (case h => walk_at "hp"); (case n => walk_at "ni"))
  | ((with_reducible refine' EW.RowAt.keep ?k ?h ?n1 ?n2); (case k => assumption); (case h => walk_at "hp"); (case n1 => walk_at "ni"); (case n2 => walk_at "ni"))
  | ((with_reducible refine' EW.ScAt.keep ?k ?h ?n); (case k => assumption); (case h => walk_at "hp"); (case n => walk_at "ni"))
  | ((with_reducible refine' EW.BoxAt.keep ?k ?h ?n); (case k => assumption); (case h => walk_at "hp"); (case n => walk_at "ni"))
  | ((with_reducible refine' L2.SqL.of ?h); (case h => walk_at "hp"))
  | ((with_reducible refine' L2.SqT.of ?h); (case h => walk_at "hp")))
local macro_rules | `(tactic| walk_at "sb") => `(tactic| first
  | exact EW.sub0
  | exact EW.sub_refl
  | exact EW.sub_l
  | exact EW.sub_r)
local macro_rules | `(tactic| walk_at "kp") => `(tactic| first
  | exact EW.Kp.refl
  | assumption
  | ((with_reducible refine' EW.Kp.trans ?h (EW.Kp.mono ?k ?s)); (case k => assumption); (case s => walk_at "sb"); (case h => walk_at "kp")))
local macro_rules | `(tactic| walk_at "st") => `(tactic| first
  | with_reducible refine rd_seq ?_
  | with_reducible refine rd_next ?_
  | with_reducible refine rd_asg ?_
  | with_reducible refine rd_name ?_
  | with_reducible refine rd_ret ?_
  | with_reducible refine rd_drop ?_
  | ((with_reducible refine' rd_var ?e ?_); (case e => first | with_reducible assumption | exact rfl | assumption))
  | with_reducible refine rd_c ?_
  | with_reducible refine rd_op ?_
  | with_reducible refine rd_I0 ?_
  | with_reducible refine rd_test ?_
  | with_reducible refine rd_tB ?_
  | with_reducible refine rd_not ?_
  | with_reducible refine rd_and ?_
  | with_reducible refine rd_or ?_
  | with_reducible refine rd_ifE ?_
  | with_reducible refine rd_notV ?_
  | with_reducible refine rd_andV ?_
  | with_reducible refine rd_orV ?_
  | with_reducible refine rd_cons ?_
  | with_reducible refine EW.rd_par ?_
  | with_reducible refine EW.rd_par2 ?_
  | with_reducible refine EW.rd_parT ?_
  | with_reducible refine EW.rd_par3 ?_
  | with_reducible refine rd_nil ?_
  | with_reducible refine rd_cb ?_
  | with_reducible refine rd_call ?_
  | with_reducible refine rd_meth ?_
  | with_reducible refine rd_sub ?_
  | with_reducible refine rd_fl ?_
  | with_reducible refine rd_tup ?_
  | with_reducible refine rd_lst ?_
  | with_reducible refine rd_sl ?_
  | with_reducible refine rd_part ?_
  | with_reducible refine rd_partI ?_
  | with_reducible refine rd_nopart ?_
  | with_reducible refine rd_yes ?_
  | with_reducible refine rd_dnewK ?_
  | with_reducible refine rd_dnewT ?_
  | ((with_reducible refine' rd_isT ?h ?_); (case h => walk_at "hp"))
  | with_reducible refine rd_isI ?_
  | with_reducible refine rd_isII ?_
  | with_reducible refine rd_isIB ?_
  | ((with_reducible refine' rd_sum ?h ?_); (case h => walk_at "hp"))
  | ((with_reducible refine' rd_tail ?h ?_); (case h => walk_at "hp"))
  | ((with_reducible refine rd_newO ?_); intro _ _ _ _ _)
  | ((with_reducible refine' rd_lenS ?l ?_); (case l => exact rfl))
  | ((with_reducible refine' rd_ixS ?l ?e ?_); (case l => exact rfl); (case e => first | assumption | with_reducible exact EW.at_head | exact rfl))
  | with_reducible refine EW.ite_dT (by decide +kernel) ?_
  | with_reducible refine EW.ite_dF (by decide +kernel) ?_
  | with_reducible refine EW.ite_nT (by decide +kernel) ?_
  | with_reducible refine EW.ite_nF (by decide +kernel) ?_
  | with_reducible refine EW.iteNF ?_
  | with_reducible refine EW.iteNT ?_
  | with_reducible refine EW.iteEC ?_
  | with_reducible refine EW.iteEN ?_
  | with_reducible refine EW.iteNC ?_
  | with_reducible refine EW.iteNN ?_
  | with_reducible refine EW.rd_kget (by assumption) ?_
  | with_reducible refine EW.rd_kgx (by assumption) _ ?_
  | with_reducible refine EW.rd_ixD (by assumption) _ ?_
  | with_reducible refine EW.rd_chain ?_
  | with_reducible refine L2.iteT ?_
  | with_reducible refine L2.iteF ?_
  | with_reducible refine rd_bm ?_
  | with_reducible refine rd_bm0 ?_
  | with_reducible refine rd_sfld ?_
  | with_reducible refine rd_make ?_
  | ((with_reducible refine' rd_bmL ?s ?_); (case s => walk_at "hp"))
  | ((with_reducible refine' rd_bm0L ?s ?_); (case s => walk_at "hp"))
  | ((with_reducible refine' rd_mex ?s ?l ?_); (case s => walk_at "hp"); (case l => assumption))
  | with_reducible refine rd_lc ?_
  | with_reducible refine rd_for ?_
  | with_reducible refine rd_il ?_
  | with_reducible refine rd_it ?_
  | with_reducible refine rd_ir ?_
  | with_reducible refine rd_dput ?_
  | with_reducible refine rd_dget ?_
  | ((with_reducible refine' rd_ilx ?s ?_); (case s => walk_at "hp"))
  | ((with_reducible refine' rd_itx ?s ?_); (case s => walk_at "hp"))
  | ((with_reducible refine' rd_getK ?s ?e ?_); (case s => walk_at "hp"); (case e => assumption))
  | ((with_reducible refine rd_newT rfl ?_); intro _ _ _ _ _)
  | ((with_reducible refine rd_newL rfl ?_); intro _ _ _ _ _)
  | ((with_reducible refine' rd_taken ?a ?b ?c ?_); (case a => walk_at "hp"); (case b => first | omega | decide); (case c => first | omega | decide); intro _ _ _ _ _)
  | ((with_reducible refine' rd_neE ?a ?b ?_); (case a => walk_at "hp"); (case b => walk_at "hp"))
  | ((with_reducible refine' rd_eqE ?a ?b ?_); (case a => walk_at "hp"); (case b => walk_at "hp"))
  | with_reducible refine rd_eq rfl ?_
  | with_reducible refine rd_ne rfl ?_
  | with_reducible refine rd_bl ?_
  | ((with_reducible refine rd_I ?c ?_); (case c => first | assumption | omega | decide | (exact Or.inl ⟨by omega, by omega⟩) | (exact ⟨by omega, by omega⟩) | (exact ⟨by decide, by decide, by decide⟩)))
  | refine Or.inl ⟨_, rfl, ?_⟩
  | refine Or.inr ⟨_, rfl, ?_⟩
  | ((with_reducible refine' rd_lenL ?s ?_); (case s => walk_at "hp"))
  | ((with_reducible refine' rd_lenT ?s ?_); (case s => walk_at "hp"))
  | ((with_reducible refine' rd_ixL ?s ?e ?_); (case s => walk_at "hp"); (case e => first | assumption | with_reducible exact EW.at_head | exact rfl))
  | ((with_reducible refine' rd_ixT ?s ?e ?_); (case s => walk_at "hp"); (case e => first | assumption | with_reducible exact EW.at_head | exact rfl))
  | ((with_reducible refine' rd_flx ?s ?c ?n ?l ?_); (case s => walk_at "hp"); (case c => assumption); (case n => assumption); (case l => assumption)))
local macro_rules | `(tactic| walk_at "go") => `(tactic| repeat (walk_at "st"))
local macro_rules | `(tactic| walk_at "gi") => `(tactic| repeat (first | with_reducible refine rd_if ?_ | walk_at "st"))
namespace EW
open PySem L2
section
variable {CR CF : Addr} {H H' : Hp} {A : RA} {M : MS} {ov : V} {kvs : List (List Key × V)} {ls ws rs : List V}
theorem RA.s_p {A : RA} : ∀ b ∈ [A.p], b ∈ A.M := fun b h => by rw [List.mem_singleton.mp h]; unfold RA.M; simp
theorem RA.s_lo {A : RA} : ∀ b ∈ [A.lo], b ∈ A.M := fun b h => by rw [List.mem_singleton.mp h]; unfold RA.M; simp
theorem RA.s_lu {A : RA} : ∀ b ∈ [A.lu], b ∈ A.M := fun b h => by rw [List.mem_singleton.mp h]; unfold RA.M; simp
theorem RA.s_dw {A : RA} : ∀ b ∈ [A.dw], b ∈ A.M := fun b h => by rw [List.mem_singleton.mp h]; unfold RA.M; simp
theorem RA.s_ll {A : RA} : ∀ b ∈ [A.ll], b ∈ A.M := fun b h => by rw [List.mem_singleton.mp h]; unfold RA.M; simp
theorem RA.s_lm {A : RA} : ∀ b ∈ [A.lm], b ∈ A.M := fun b h => by rw [List.mem_singleton.mp h]; unfold RA.M; simp
theorem RA.s_lw {A : RA} : ∀ b ∈ [A.lw], b ∈ A.M := fun b h => by rw [List.mem_singleton.mp h]; unfold RA.M; simp
theorem RA.s_lr {A : RA} : ∀ b ∈ [A.lr], b ∈ A.M := fun b h => by rw [List.mem_singleton.mp h]; unfold RA.M; simp
theorem RunAt.chO {ow' : List (Option Nat)} (k : Kp [A.lo] H H') (h : RunAt CR CF H A M ov kvs ls ws rs) (e : H' A.lo = some (.lst (ow'.map oV))) : RunAt CR CF H' A { M with lg := { M.lg with ow := ow' } } ov kvs ls ws rs := by
  have n := h.nes
  have nf := h.nof.sub (RA.s_lo (A := A))
  exact ⟨k.keep _ _ h.ob (ne_mem1 n.p1.1), e, k.keep _ _ h.hu (ne_mem1 (Ne.symm n.p2.1)), k.keep _ _ h.hw (ne_mem1 (Ne.symm n.p2.2.1)), k.keep _ _ h.hl (ne_mem1 (Ne.symm n.p2.2.2.1)), k.keep _ _ h.hm (ne_mem1 (Ne.symm n.p2.2.2.2.1)), k.keep _ _ h.hk (ne_mem1 (Ne.symm n.p2.2.2.2.2.1)), k.keep _ _ h.hr (ne_mem1 (Ne.symm n.p2.2.2.2.2.2)), h.nd, h.rw_.imp fun _ _ q => q.keep k nf, h.rl.imp fun _ _ q => q.mono k.tup, h.rk.imp fun _ _ q => q.mono k.tup, h.rr.imp fun _ _ q => q.keep k nf⟩
theorem RunAt.chU {up' : List (Option Nat)} (k : Kp [A.lu] H H') (h : RunAt CR CF H A M ov kvs ls ws rs) (e : H' A.lu = some (.lst (up'.map oV))) : RunAt CR CF H' A { M with lg := { M.lg with up := up' } } ov kvs ls ws rs := by
  have n := h.nes
  have nf := h.nof.sub (RA.s_lu (A := A))
  exact ⟨k.keep _ _ h.ob (ne_mem1 n.p1.2.1), k.keep _ _ h.ho (ne_mem1 n.p2.1), e, k.keep _ _ h.hw (ne_mem1 (Ne.symm n.p3.1)), k.keep _ _ h.hl (ne_mem1 (Ne.symm n.p3.2.1)), k.keep _ _ h.hm (ne_mem1 (Ne.symm n.p3.2.2.1)), k.keep _ _ h.hk (ne_mem1 (Ne.symm n.p3.2.2.2.1)), k.keep _ _ h.hr (ne_mem1 (Ne.symm n.p3.2.2.2.2)), h.nd, h.rw_.imp fun _ _ q => q.keep k nf, h.rl.imp fun _ _ q => q.mono k.tup, h.rk.imp fun _ _ q => q.mono k.tup, h.rr.imp fun _ _ q => q.keep k nf⟩
theorem RunAt.chW {wo' : List ((Nat × Nat) × Wo)} {kvs' : List (List Key × V)} (k : Kp [A.dw] H H') (h : RunAt CR CF H A M ov kvs ls ws rs) (e : H' A.dw = some (.dT kvs')) (r : RWo CF H' wo' kvs') : RunAt CR CF H' A { M with lg := { M.lg with wo := wo' } } ov kvs' ls ws rs := by
  have n := h.nes
  have nf := h.nof.sub (RA.s_dw (A := A))
  exact ⟨k.keep _ _ h.ob (ne_mem1 n.p1.2.2.1), k.keep _ _ h.ho (ne_mem1 n.p2.2.1), k.keep _ _ h.hu (ne_mem1 n.p3.1), e, k.keep _ _ h.hl (ne_mem1 (Ne.symm n.p4.1)), k.keep _ _ h.hm (ne_mem1 (Ne.symm n.p4.2.1)), k.keep _ _ h.hk (ne_mem1 (Ne.symm n.p4.2.2.1)), k.keep _ _ h.hr (ne_mem1 (Ne.symm n.p4.2.2.2)), h.nd, r, h.rl.imp fun _ _ q => q.mono k.tup, h.rk.imp fun _ _ q => q.mono k.tup, h.rr.imp fun _ _ q => q.keep k nf⟩
theorem RunAt.chL {lk' : List (Nat × Nat × Nat)} {ls' : List V} (k : Kp [A.ll] H H') (h : RunAt CR CF H A M ov kvs ls ws rs) (e : H' A.ll = some (.lst ls')) (r : R2 (RL H') lk' ls') : RunAt CR CF H' A { M with lg := { M.lg with lk := lk' } } ov kvs ls' ws rs := by
  have n := h.nes
  have nf := h.nof.sub (RA.s_ll (A := A))
  exact ⟨k.keep _ _ h.ob (ne_mem1 n.p1.2.2.2.1), k.keep _ _ h.ho (ne_mem1 n.p2.2.2.1), k.keep _ _ h.hu (ne_mem1 n.p3.2.1), k.keep _ _ h.hw (ne_mem1 n.p4.1), e, k.keep _ _ h.hm (ne_mem1 (Ne.symm n.p5.1)), k.keep _ _ h.hk (ne_mem1 (Ne.symm n.p5.2.1)), k.keep _ _ h.hr (ne_mem1 (Ne.symm n.p5.2.2)), h.nd, h.rw_.imp fun _ _ q => q.keep k nf, r, h.rk.imp fun _ _ q => q.mono k.tup, h.rr.imp fun _ _ q => q.keep k nf⟩
theorem RunAt.chM {md' : List Nat} (k : Kp [A.lm] H H') (h : RunAt CR CF H A M ov kvs ls ws rs) (e : H' A.lm = some (.lst (md'.map nV))) : RunAt CR CF H' A { M with lg := { M.lg with md := md' } } ov kvs ls ws rs := by
  have n := h.nes
  have nf := h.nof.sub (RA.s_lm (A := A))
  exact ⟨k.keep _ _ h.ob (ne_mem1 n.p1.2.2.2.2.1), k.keep _ _ h.ho (ne_mem1 n.p2.2.2.2.1), k.keep _ _ h.hu (ne_mem1 n.p3.2.2.1), k.keep _ _ h.hw (ne_mem1 n.p4.2.1), k.keep _ _ h.hl (ne_mem1 n.p5.1), e, k.keep _ _ h.hk (ne_mem1 (Ne.symm n.p6.1)), k.keep _ _ h.hr (ne_mem1 (Ne.symm n.p6.2)), h.nd, h.rw_.imp fun _ _ q => q.keep k nf, h.rl.imp fun _ _ q => q.mono k.tup, h.rk.imp fun _ _ q => q.mono k.tup, h.rr.imp fun _ _ q => q.keep k nf⟩
theorem RunAt.chK {wk' : List Tk} {ws' : List V} (k : Kp [A.lw] H H') (h : RunAt CR CF H A M ov kvs ls ws rs) (e : H' A.lw = some (.lst ws')) (r : R2 (RT H') wk' ws') : RunAt CR CF H' A { M with wk := wk' } ov kvs ls ws' rs := by
  have n := h.nes
  have nf := h.nof.sub (RA.s_lw (A := A))
  exact ⟨k.keep _ _ h.ob (ne_mem1 n.p1.2.2.2.2.2.1), k.keep _ _ h.ho (ne_mem1 n.p2.2.2.2.2.1), k.keep _ _ h.hu (ne_mem1 n.p3.2.2.2.1), k.keep _ _ h.hw (ne_mem1 n.p4.2.2.1), k.keep _ _ h.hl (ne_mem1 n.p5.2.1), k.keep _ _ h.hm (ne_mem1 n.p6.1), e, k.keep _ _ h.hr (ne_mem1 (Ne.symm n.p7)), h.nd, h.rw_.imp fun _ _ q => q.keep k nf, h.rl.imp fun _ _ q => q.mono k.tup, r, h.rr.imp fun _ _ q => q.keep k nf⟩
theorem RunAt.chR {rs0' : List Wo} {rs' : List V} (k : Kp [A.lr] H H') (h : RunAt CR CF H A M ov kvs ls ws rs) (e : H' A.lr = some (.lst rs')) (r : R2 (RW CF H') rs0' rs') : RunAt CR CF H' A { M with rs := rs0' } ov kvs ls ws rs' := by
  have n := h.nes
  have nf := h.nof.sub (RA.s_lr (A := A))
  exact ⟨k.keep _ _ h.ob (ne_mem1 n.p1.2.2.2.2.2.2), k.keep _ _ h.ho (ne_mem1 n.p2.2.2.2.2.2), k.keep _ _ h.hu (ne_mem1 n.p3.2.2.2.2), k.keep _ _ h.hw (ne_mem1 n.p4.2.2.2), k.keep _ _ h.hl (ne_mem1 n.p5.2.2), k.keep _ _ h.hm (ne_mem1 n.p6.2), k.keep _ _ h.hk (ne_mem1 n.p7), e, h.nd, h.rw_.imp fun _ _ q => q.keep k nf, h.rl.imp fun _ _ q => q.mono k.tup, h.rk.imp fun _ _ q => q.mono k.tup, r⟩
theorem RunAt.chP {left' : Nat} {ov' : V} {out' : Option Out} (k : Kp [A.p] H H') (h : RunAt CR CF H A M ov kvs ls ws rs) (e : H' A.p = some (.ins CR A.dx (runF A left' ov'))) : RunAt CR CF H' A { M with left := left', out := out' } ov' kvs ls ws rs := by
  have n := h.nes
  have nf := h.nof.sub (RA.s_p (A := A))
  exact ⟨e, k.keep _ _ h.ho (ne_mem1 (Ne.symm n.p1.1)), k.keep _ _ h.hu (ne_mem1 (Ne.symm n.p1.2.1)), k.keep _ _ h.hw (ne_mem1 (Ne.symm n.p1.2.2.1)), k.keep _ _ h.hl (ne_mem1 (Ne.symm n.p1.2.2.2.1)), k.keep _ _ h.hm (ne_mem1 (Ne.symm n.p1.2.2.2.2.1)), k.keep _ _ h.hk (ne_mem1 (Ne.symm n.p1.2.2.2.2.2.1)), k.keep _ _ h.hr (ne_mem1 (Ne.symm n.p1.2.2.2.2.2.2)), h.nd, h.rw_.imp fun _ _ q => q.keep k nf, h.rl.imp fun _ _ q => q.mono k.tup, h.rk.imp fun _ _ q => q.mono k.tup, h.rr.imp fun _ _ q => q.keep k nf⟩
end
end EW

end
section
open PySem L2 EW
local macro_rules | `(tactic| walk_at "ne") => `(tactic| first
  | assumption
  | exact Ne.symm (by assumption)
  | ((with_reducible refine' EW.RowAt.newne ?n ?h); (case n => assumption); (case h => walk_at "hp"))
  | ((with_reducible refine' Ne.symm (EW.RowAt.newne ?n ?h)); (case n => assumption); (case h => walk_at "hp"))
  | ((with_reducible refine' EW.BoxAt.newne ?n ?h); (case n => assumption); (case h => walk_at "hp"))
  | ((with_reducible refine' Ne.symm (EW.BoxAt.newne ?n ?h)); (case n => assumption); (case h => walk_at "hp")))
local macro_rules | `(tactic| walk_at "ns") => `(tactic| first
  | assumption
  | exact EW.RowAt.ne (by assumption)
  | ((with_reducible refine' EW.RowAt.notin ?n ?h); (case n => assumption); (case h => walk_at "hp")))
local macro_rules | `(tactic| walk_at "ni") => `(tactic| first
  | with_reducible exact EW.ne_mem0
  | with_reducible exact EW.dis0
  | ((with_reducible refine' EW.ne_mem1 ?h); (case h => walk_at "ne"))
  | ((with_reducible refine' EW.ne_mem2 ?h ?g); (case h => walk_at "ne"); (case g => walk_at "ne"))
  | ((with_reducible refine' EW.dis1 ?h); (case h => walk_at "ns"))
  | ((with_reducible refine' EW.dis2 ?h ?g); (case h => walk_at "ns"); (case g => walk_at "ns")))
local macro_rules | `(tactic| walk_at "hp") => `(tactic| first
  | assumption
  | ((with_reducible refine' EW.RE.mono (EW.Kp.tup ?k) ?h); (case k => assumption); (case h => walk_at "hp"))
  | ((with_reducible refine' EW.Kp.tup ?k _ _ ?h); (case k => assumption); (case h => walk_at "hp"))
  | ((with_reducible refine' EW.kp_tup ?k ?h); (case k => assumption); (case h => walk_at "hp"))
  | ((with_reducible refine' EW.Kp.keep ?k _ _ ?h ?n); (case k => assumption); (case h => walk_at "hp"); (case n => walk_at "ni"))
  | ((with_reducible refine' EW.Kp.seqL ?k ?h ?n); (case k => assumption); (case h => walk_at "hp"); (case n => walk_at "ni"))
  | ((with_reducible refine' EW.RowAt.keep ?k ?h ?n1 ?n2); (case k => assumption); (case h => walk_at "hp"); (case n1 => walk_at "ni"); (case n2 => walk_at "ni"))
  | ((with_reducible refine' EW.ScAt.keep ?k ?h ?n); (case k => assumption); (case h => walk_at "hp"); (case n => walk_at "ni"))
  | ((with_reducible refine' EW.BoxAt.keep ?k ?h ?n); (case k => assumption); (case h => walk_at "hp"); (case n => walk_at "ni"))
  | ((with_reducible refine' L2.SqL.of ?h); (case h => walk_at "hp"))
  | ((with_reducible refine' L2.SqT.of ?h); (case h => walk_at "hp")))
local macro_rules | `(tactic| walk_at "sb") => `(tactic| first
  | exact EW.sub0
  | exact EW.sub_refl
  | exact EW.sub_l
  | exact EW.sub_r)
local macro_rules | `(tactic| walk_at "kp") => `(tactic| first
  | exact EW.Kp.refl
  | assumption
  | ((with_reducible refine' EW.Kp.trans ?h (EW.Kp.mono ?k ?s)); (case k => assumption); (case s => walk_at "sb"); (case h => walk_at "kp")))
local macro_rules | `(tactic| walk_at "st") => `(tactic| first
  | with_reducible refine rd_seq ?_
  | with_reducible refine rd_next ?_
  | with_reducible refine rd_asg ?_
  | with_reducible refine rd_name ?_
  | with_reducible refine rd_ret ?_
  | with_reducible refine rd_drop ?_
  | ((with_reducible refine' rd_var ?e ?_); (case e => first | with_reducible assumption | exact rfl | assumption))
  | with_reducible refine rd_c ?_
  | with_reducible refine rd_op ?_
  | with_reducible refine rd_I0 ?_
  | with_reducible refine rd_test ?_
  | with_reducible refine rd_tB ?_
  | with_reducible refine rd_not ?_
  | with_reducible refine rd_and ?_
  | with_reducible refine rd_or ?_
  | with_reducible refine rd_ifE ?_
  | with_reducible refine rd_notV ?_
  | with_reducible refine rd_andV ?_
  | with_reducible refine rd_orV ?_
  | with_reducible refine rd_cons ?_
  | with_reducible refine EW.rd_par ?_
  | with_reducible refine EW.rd_par2 ?_
  | with_reducible refine EW.rd_parT ?_
  | with_reducible refine EW.rd_par3 ?_
  | with_reducible refine rd_nil ?_
  | with_reducible refine rd_cb ?_
  | with_reducible refine rd_call ?_
  | with_reducible refine rd_meth ?_
  | with_reducible refine rd_sub ?_
  | with_reducible refine rd_fl ?_
  | with_reducible refine rd_tup ?_
  | with_reducible refine rd_lst ?_
  | with_reducible refine rd_sl ?_
  | with_reducible refine rd_part ?_
  | with_reducible refine rd_partI ?_
  | with_reducible refine rd_nopart ?_
  | with_reducible refine rd_yes ?_
  | with_reducible refine rd_dnewK ?_
  | with_reducible refine rd_dnewT ?_
  | ((with_reducible refine' rd_isT ?h ?_); (case h => walk_at "hp"))
  | with_reducible refine rd_isI ?_
  | with_reducible refine rd_isII ?_
  | with_reducible refine rd_isIB ?_
  | ((with_reducible refine' rd_sum ?h ?_); (case h => walk_at "hp"))
  | ((with_reducible refine' rd_tail ?h ?_); (case h => walk_at "hp"))
  | ((with_reducible refine rd_newO ?_); intro _ _ _ _ _)
  | ((with_reducible refine' rd_lenS ?l ?_); (case l => exact rfl))
  | ((with_reducible refine' rd_ixS ?l ?e ?_); (case l => exact rfl); (case e => first | assumption | with_reducible exact EW.at_head | exact rfl))
  | with_reducible refine EW.ite_dT (by decide +kernel) ?_
  | with_reducible refine EW.ite_dF (by decide +kernel) ?_
  | with_reducible refine EW.ite_nT (by decide +kernel) ?_
  | with_reducible refine EW.ite_nF (by decide +kernel) ?_
  | with_reducible refine EW.iteNF ?_
  | with_reducible refine EW.iteNT ?_
  | with_reducible refine EW.iteEC ?_
  | with_reducible refine EW.iteEN ?_
  | with_reducible refine EW.iteNC ?_
  | with_reducible refine EW.iteNN ?_
  | with_reducible refine EW.rd_kget (by assumption) ?_
  | with_reducible refine EW.rd_kgx (by assumption) _ ?_
  | with_reducible refine EW.rd_ixD (by assumption) _ ?_
  | with_reducible refine EW.rd_chain ?_
  | with_reducible refine L2.iteT ?_
  | with_reducible refine L2.iteF ?_
  | with_reducible refine rd_bm ?_
  | with_reducible refine rd_bm0 ?_
  | with_reducible refine rd_sfld ?_
  | with_reducible refine rd_make ?_
  | ((with_reducible refine' rd_bmL ?s ?_); (case s => walk_at "hp"))
  | ((with_reducible refine' rd_bm0L ?s ?_); (case s => walk_at "hp"))
  | ((with_reducible refine' rd_mex ?s ?l ?_); (case s => walk_at "hp"); (case l => assumption))
  | with_reducible refine rd_lc ?_
  | with_reducible refine rd_for ?_
  | with_reducible refine rd_il ?_
  | with_reducible refine rd_it ?_
  | with_reducible refine rd_ir ?_
  | with_reducible refine rd_dput ?_
  | with_reducible refine rd_dget ?_
  | ((with_reducible refine' rd_ilx ?s ?_); (case s => walk_at "hp"))
  | ((with_reducible refine' rd_itx ?s ?_); (case s => walk_at "hp"))
  | ((with_reducible refine' rd_getK ?s ?e ?_); (case s => walk_at "hp"); (case e => assumption))
  | ((with_reducible refine rd_newT rfl ?_); intro _ _ _ _ _)
  | ((with_reducible refine rd_newL rfl ?_); intro _ _ _ _ _)
  | ((with_reducible refine' rd_taken ?a ?b ?c ?_); (case a => walk_at "hp"); (case b => first | omega | decide); (case c => first | omega | decide); intro _ _ _ _ _)
  | ((with_reducible refine' rd_neE ?a ?b ?_); (case a => walk_at "hp"); (case b => walk_at "hp"))
  | ((with_reducible refine' rd_eqE ?a ?b ?_); (case a => walk_at "hp"); (case b => walk_at "hp"))
  | with_reducible refine rd_eq rfl ?_
  | with_reducible refine rd_ne rfl ?_
  | with_reducible refine rd_bl ?_
  | ((with_reducible refine rd_I ?c ?_); (case c => first | assumption | omega | decide | (exact Or.inl ⟨by omega, by omega⟩) | (exact ⟨by omega, by omega⟩) | (exact ⟨by decide, by decide, by decide⟩)))
  | refine Or.inl ⟨_, rfl, ?_⟩
  | refine Or.inr ⟨_, rfl, ?_⟩
  | ((with_reducible refine' rd_lenL ?s ?_); (case s => walk_at "hp"))
  | ((with_reducible refine' rd_lenT ?s ?_); (case s => walk_at "hp"))
  | ((with_reducible refine' rd_ixL ?s ?e ?_); (case s => walk_at "hp"); (case e => first | assumption | with_reducible exact EW.at_head | exact rfl))
  | ((with_reducible refine' rd_ixT ?s ?e ?_); (case s => walk_at "hp"); (case e => first | assumption | with_reducible exact EW.at_head | exact rfl))
  | ((with_reducible refine' rd_flx ?s ?c ?n ?l ?_); (case s => walk_at "hp"); (case c => assumption); (case n => assumption); (case l => assumption)))
local macro_rules | `(tactic| walk_at "go") => `(tactic| repeat (walk_at "st"))
local macro_rules | `(tactic| walk_at "gi") => `(tactic| repeat (first | with_reducible refine rd_if ?_ | walk_at "st"))
namespace EW
open PySem L2
theorem rd_while {tt : TT} {tb : TS} {D : Ends} {σ : L2.St} {H : Hp} (W : Nat → L2.St → Hp → Prop) (m0 : Nat) (h0 : W m0 σ H)
    (hs : ∀ m σ' H', W m σ' H' → tt σ' H' fun b H1 => if b = true then ∃ N : L2.St → Hp → Prop, (∀ σ2 H2, N σ2 H2 → ∃ m', m' < m ∧ W m' σ2 H2) ∧ tb { D with nx := N, ct := N, bk := D.nx } σ' H1 else D.nx σ' H1) : tWhile tt tb D σ H := ⟨W, ⟨m0, h0⟩, hs⟩
inductive ReachN (so : Nat → Option (Option Nat)) (L : Lg) : Nat → Nat → Nat → Nat → Prop where
  | here {h s x} (g : so s = some x) (e : L.ow[h]? = some x) : ReachN so L 0 h s h
  | up {k h s a h' o x} (g : so s = some x) (e : L.ow[h]? = some o) (n : o ≠ x) (u : L.up[h]? = some (some h')) (r : ReachN so L k h' s a) : ReachN so L (k + 1) h s a
theorem Reach.num {so : Nat → Option (Option Nat)} {L : Lg} {h s a : Nat} (r : Reach so L h s a) : ∃ k, ReachN so L k h s a := by
  induction r with
  | here g e => exact ⟨0, .here g e⟩
  | up g e n u _ ih => obtain ⟨k, ih⟩ := ih; exact ⟨k + 1, .up g e n u ih⟩
def spHolder (CR CF CS : Addr) : Sp := fun vs H Q _ => ∃ (A : RA) (M : MS) (ov : V) (kvs : List (List Key × V)) (ls ws rs : List V) (dxs : Addr) (fl : List (Str × V)) (lo : Addr) (os : List (Option Nat)) (h s a : Nat), vs = [.ref A.p, nV h, nV s] ∧
  RunAt CR CF H A M ov kvs ls ws rs ∧ SiAt CS H A dxs fl lo os ∧ Reach (fun s => os[s]?) M.lg h s a ∧ Q (nV a) H
theorem rd_holder {CR CF CS : Addr} {H : Hp} {Q : VK} {EE : XK} {A : RA} {M : MS} {ov : V} {kvs : List (List Key × V)} {ls ws rs : List V} {dxs : Addr} {fl : List (Str × V)} {lo : Addr} {os : List (Option Nat)} {h s a : Nat}
    (r : RunAt CR CF H A M ov kvs ls ws rs) (si : SiAt CS H A dxs fl lo os) (x : Reach (fun s => os[s]?) M.lg h s a) (q : Q (nV a) H) : spHolder CR CF CS (.ref A.p :: ([nV h, nV s] ++ [])) H Q EE := ⟨A, M, ov, kvs, ls, ws, rs, dxs, fl, lo, os, h, s, a, rfl, r, si, x, q⟩
section
variable {P : Program} {w : World} {K : PySem.W.Frag} {mg : Str → Option Value} {base : Heap} {a_SHAPES C_Sites C_Run C_Function : Addr}
theorem ok_Run_holder {f : Addr} {fd : FuncData} (A : AtM K C_Run "holder" "Run.holder" s_Run_holder ["self", "here", "site"] f fd) (T : TxtR K w mg a_SHAPES C_Sites C_Run C_Function) : HasM P w K mg base C_Run "holder" ["self", "here", "site"] 1 (spHolder C_Run C_Function C_Sites) := by
  refine ⟨f, fd, A.F.ok sc_Run_holder (fun vs H Q EE h => ?_) (fun cdv A outer s H vs Q EE hr h => ?_), A.m, A.b⟩
  · obtain ⟨_, _, _, _, _, _, _, _, _, _, _, _, _, _, rfl, _⟩ := h
    rfl
  obtain ⟨A', M, ov, kvs, ls, ws, rs, dxs, fl, lo, os, h0, s0, a0, rfl, R, S, x, q⟩ := h
  obtain ⟨k, x⟩ := x.num
  have hu := hu_of hr
  have cl := T.cl_Run
  have cs := T.cl_Sites
  have n1 := T.n_owners
  have n2 := T.n_r "owners" (by simp)
  have n3 := T.n_r "ups" (by simp)
  have n4 := T.n_r "sites" (by simp)
  have hob := R.ob
  have hho := R.ho
  have hhu := R.hu
  have hx := S.ob
  have hxo := S.ho
  have fo := S.fo
  have e1 : (runF A' M.left ov).lookup ("owners" : Str) = some (.ref A'.lo) := rfl
  have e2 : (runF A' M.left ov).lookup ("ups" : Str) = some (.ref A'.lu) := rfl
  have e3 : (runF A' M.left ov).lookup ("sites" : Str) = some (.ref A'.x) := rfl
  refine ⟨_, (pss_cons (ps_while PassesOwn.never (pt_cmpR op_ne (pe_ix (w_ixL (K := K) rfl) (w_fld (K := K) rfl (pv 0) rfl) (pv 1) (fun _ _ => rfl)) (pe_ix (w_ixL (K := K) rfl) (w_fld (K := K) rfl (w_fld (K := K) rfl (pv 0) rfl) rfl) (pv 2) (fun _ _ => rfl)) (nomark _))
        (pss_one (ps_set (i := 1) sc_Run_holder.nd rfl (Or.inl rfl) (pe_ix (w_ixL (K := K) rfl) (w_fld (K := K) rfl (pv 0) rfl) (pv 1) (fun _ _ => rfl)))))
      (pss_one (ps_ret (pv 1)))), ?_⟩
  refine at_st (σ' := [some (.ref A'.p), some (nV h0), some (nV s0)]) rfl ?_
  walk_at "st"
  refine rd_while (fun m σ' H' => ∃ h1, σ' = [some (.ref A'.p), some (nV h1), some (nV s0)] ∧ H' = H ∧ ReachN (fun s => os[s]?) M.lg m h1 s0 a0) k ⟨h0, rfl, rfl, x⟩ ?_
  rintro m _ _ ⟨h1, rfl, rfl, x⟩
  cases x with
  | here g e =>
    have i1 : atI (M.lg.ow.map oV) ((a0 : Nat) : Int) = some (oV _) := atI_nat (by rw [List.getElem?_map, e] <;> rfl)
    have i2 : atI (os.map oV) ((s0 : Nat) : Int) = some (oV _) := atI_nat (by rw [List.getElem?_map, g] <;> rfl)
    walk_at "go"
    refine rd_ne (scal_oV _ _) ?_
    walk_at "go"
    refine ite_nF rfl ?_
    walk_at "go"
    exact q
  | up g e n u r =>
    have i1 : atI (M.lg.ow.map oV) ((h1 : Nat) : Int) = some (oV _) := atI_nat (by rw [List.getElem?_map, e] <;> rfl)
    have i2 : atI (os.map oV) ((s0 : Nat) : Int) = some (oV _) := atI_nat (by rw [List.getElem?_map, g] <;> rfl)
    have i3 : atI (M.lg.up.map oV) ((h1 : Nat) : Int) = some (nV _) := atI_nat (by rw [List.getElem?_map, u] <;> rfl)
    walk_at "go"
    refine rd_ne (scal_oV _ _) ?_
    walk_at "go"
    refine ite_nT (fun z => n (oV_inj z)) ?_
    refine ⟨fun σ' H' => σ' = [some (.ref A'.p), some (nV _), some (nV s0)] ∧ H' = _, fun _ _ ⟨z1, z2⟩ => ⟨_, Nat.lt_succ_self _, _, z1, z2, r⟩, ?_⟩
    walk_at "go"
    exact ⟨rfl, rfl⟩
end
end EW

end
section
open PySem L2 EW
local macro_rules | `(tactic| walk_at "ne") => `(tactic| first
  | assumption
  | exact Ne.symm (by assumption)
  | ((with_reducible refine' EW.RowAt.newne ?n ?h); (case n => assumption); (case h => walk_at "hp"))
  | ((with_reducible refine' Ne.symm (EW.RowAt.newne ?n ?h)); (case n => assumption); (case h => walk_at "hp"))
  | ((with_reducible refine' EW.BoxAt.newne ?n ?h); (case n => assumption); (case h => walk_at "hp"))
  | ((with_reducible refine' Ne.symm (EW.BoxAt.newne ?n ?h)); (case n => assumption); (case h => walk_at "hp")))
local macro_rules | `(tactic| walk_at "ns") => `(tactic| first
  | assumption
  | exact EW.RowAt.ne (by assumption)
  | ((with_reducible refine' EW.RowAt.notin ?n ?h); (case n => assumption); (case h => walk_at "hp")))
local macro_rules | `(tactic| walk_at "ni") => `(tactic| first
  | with_reducible exact EW.ne_mem0
  | with_reducible exact EW.dis0
  | ((with_reducible refine' EW.ne_mem1 ?h); (case h => walk_at "ne"))
  | ((with_reducible refine' EW.ne_mem2 ?h ?g); (case h => walk_at "ne"); (case g => walk_at "ne"))
  | ((with_reducible refine' EW.dis1 ?h); (case h => walk_at "ns"))
  | ((with_reducible refine' EW.dis2 ?h ?g); (case h => walk_at "ns"); (case g => walk_at "ns")))
local macro_rules | `(tactic| walk_at "hp") => `(tactic| first
  | assumption
  | ((with_reducible refine' EW.RE.mono (EW.Kp.tup ?k) ?h); (case k => assumption); (case h => walk_at "hp"))
  | ((with_reducible refine' EW.Kp.tup ?k _ _ ?h); (case k => assumption); (case h => walk_at "hp"))
  | ((with_reducible refine' EW.kp_tup ?k ?h); (case k => assumption); (case h => walk_at "hp"))
  | ((with_reducible refine' EW.Kp.keep ?k _ _ ?h ?n); (case k => assumption); (case h => walk_at "hp"); (case n => walk_at "ni"))
  | ((with_reducible refine' EW.Kp.seqL ?k ?h ?n); (case k => assumption); (case h => walk_at "hp"); (case n => walk_at "ni"))
  | ((with_reducible refine' EW.RowAt.keep ?k ?h ?n1 ?n2); (case k => assumption); (case h => walk_at "hp"); (case n1 => walk_at "ni"); (case n2 => walk_at "ni"))
  | ((with_reducible refine' EW.ScAt.keep ?k ?h ?n); (case k => assumption); (case h => walk_at "hp"); (case n => walk_at "ni"))
  | ((with_reducible refine' EW.BoxAt.keep ?k ?h ?n); (case k => assumption); (case h => walk_at "hp"); (case n => walk_at "ni"))
  | ((with_reducible refine' L2.SqL.of ?h); (case h => walk_at "hp"))
  | ((with_reducible refine' L2.SqT.of ?h); (case h => walk_at "hp")))
local macro_rules | `(tactic| walk_at "sb") => `(tactic| first
  | exact EW.sub0
  | exact EW.sub_refl
  | exact EW.sub_l
  | exact EW.sub_r)
local macro_rules | `(tactic| walk_at "kp") => `(tactic| first
  | exact EW.Kp.refl
  | assumption
  | ((with_reducible refine' EW.Kp.trans ?h (EW.Kp.mono ?k ?s)); (case k => assumption); (case s => walk_at "sb"); (case h => walk_at "kp")))
local macro_rules | `(tactic| walk_at "st") => `(tactic| first
  | with_reducible refine rd_seq ?_
  | with_reducible refine rd_next ?_
  | with_reducible refine rd_asg ?_
  | with_reducible refine rd_name ?_
  | with_reducible refine rd_ret ?_
  | with_reducible refine rd_drop ?_
  | ((with_reducible refine' rd_var ?e ?_); (case e => first | with_reducible assumption | exact rfl | assumption))
  | with_reducible refine rd_c ?_
  | with_reducible refine rd_op ?_
  | with_reducible refine rd_I0 ?_
  | with_reducible refine rd_test ?_
  | with_reducible refine rd_tB ?_
  | with_reducible refine rd_not ?_
  | with_reducible refine rd_and ?_
  | with_reducible refine rd_or ?_
  | with_reducible refine rd_ifE ?_
  | with_reducible refine rd_notV ?_
  | with_reducible refine rd_andV ?_
  | with_reducible refine rd_orV ?_
  | with_reducible refine rd_cons ?_
  | with_reducible refine EW.rd_par ?_
  | with_reducible refine EW.rd_par2 ?_
  | with_reducible refine EW.rd_parT ?_
  | with_reducible refine EW.rd_par3 ?_
  | with_reducible refine rd_nil ?_
  | with_reducible refine rd_cb ?_
  | with_reducible refine rd_call ?_
  | with_reducible refine rd_meth ?_
  | with_reducible refine rd_sub ?_
  | with_reducible refine rd_fl ?_
  | with_reducible refine rd_tup ?_
  | with_reducible refine rd_lst ?_
  | with_reducible refine rd_sl ?_
  | with_reducible refine rd_part ?_
  | with_reducible refine rd_partI ?_
  | with_reducible refine rd_nopart ?_
  | with_reducible refine rd_yes ?_
  | with_reducible refine rd_dnewK ?_
  | with_reducible refine rd_dnewT ?_
  | ((with_reducible refine' rd_isT ?h ?_); (case h => walk_at "hp"))
  | with_reducible refine rd_isI ?_
  | with_reducible refine rd_isII ?_
  | with_reducible refine rd_isIB ?_
  | ((with_reducible refine' rd_sum ?h ?_); (case h => walk_at "hp"))
  | ((with_reducible refine' rd_tail ?h ?_); (case h => walk_at "hp"))
  | ((with_reducible refine rd_newO ?_); intro _ _ _ _ _)
  | ((with_reducible refine' rd_lenS ?l ?_); (case l => exact rfl))
  | ((with_reducible refine' rd_ixS ?l ?e ?_); (case l => exact rfl); (case e => first | assumption | with_reducible exact EW.at_head | exact rfl))
  | with_reducible refine EW.ite_dT (by decide +kernel) ?_
  | with_reducible refine EW.ite_dF (by decide +kernel) ?_
  | with_reducible refine EW.ite_nT (by decide +kernel) ?_
  | with_reducible refine EW.ite_nF (by decide +kernel) ?_
  | with_reducible refine EW.iteNF ?_
  | with_reducible refine EW.iteNT ?_
  | with_reducible refine EW.iteEC ?_
  | with_reducible refine EW.iteEN ?_
  | with_reducible refine EW.iteNC ?_
  | with_reducible refine EW.iteNN ?_
  | with_reducible refine EW.rd_kget (by assumption) ?_
  | with_reducible refine EW.rd_kgx (by assumption) _ ?_
  | with_reducible refine EW.rd_ixD (by assumption) _ ?_
  | with_reducible refine EW.rd_chain ?_
  | with_reducible refine L2.iteT ?_
  | with_reducible refine L2.iteF ?_
  | with_reducible refine rd_bm ?_
  | with_reducible refine rd_bm0 ?_
  | with_reducible refine rd_sfld ?_
  | with_reducible refine rd_make ?_
  | ((with_reducible refine' rd_bmL ?s ?_); (case s => walk_at "hp"))
  | ((with_reducible refine' rd_bm0L ?s ?_); (case s => walk_at "hp"))
  | ((with_reducible refine' rd_mex ?s ?l ?_); (case s => walk_at "hp"); (case l => assumption))
  | with_reducible refine rd_lc ?_
  | with_reducible refine rd_for ?_
  | with_reducible refine rd_il ?_
  | with_reducible refine rd_it ?_
  | with_reducible refine rd_ir ?_
  | with_reducible refine rd_dput ?_
  | with_reducible refine rd_dget ?_
  | ((with_reducible refine' rd_ilx ?s ?_); (case s => walk_at "hp"))
  | ((with_reducible refine' rd_itx ?s ?_); (case s => walk_at "hp"))
  | ((with_reducible refine' rd_getK ?s ?e ?_); (case s => walk_at "hp"); (case e => assumption))
  | ((with_reducible refine rd_newT rfl ?_); intro _ _ _ _ _)
  | ((with_reducible refine rd_newL rfl ?_); intro _ _ _ _ _)
  | ((with_reducible refine' rd_taken ?a ?b ?c ?_); (case a => walk_at "hp"); (case b => first | omega | decide); (case c => first | omega | decide); intro _ _ _ _ _)
  | ((with_reducible refine' rd_neE ?a ?b ?_); (case a => walk_at "hp"); (case b => walk_at "hp"))
  | ((with_reducible refine' rd_eqE ?a ?b ?_); (case a => walk_at "hp"); (case b => walk_at "hp"))
  | with_reducible refine rd_eq rfl ?_
  | with_reducible refine rd_ne rfl ?_
  | with_reducible refine rd_bl ?_
  | ((with_reducible refine rd_I ?c ?_); (case c => first | assumption | omega | decide | (exact Or.inl ⟨by omega, by omega⟩) | (exact ⟨by omega, by omega⟩) | (exact ⟨by decide, by decide, by decide⟩)))
  | refine Or.inl ⟨_, rfl, ?_⟩
  | refine Or.inr ⟨_, rfl, ?_⟩
  | ((with_reducible refine' rd_lenL ?s ?_); (case s => walk_at "hp"))
  | ((with_reducible refine' rd_lenT ?s ?_); (case s => walk_at "hp"))
  | ((with_reducible refine' rd_ixL ?s ?e ?_); (case s => walk_at "hp"); (case e => first | assumption | with_reducible exact EW.at_head | exact rfl))
  | ((with_reducible refine' rd_ixT ?s ?e ?_); (case s => walk_at "hp"); (case e => first | assumption | with_reducible exact EW.at_head | exact rfl))
  | ((with_reducible refine' rd_flx ?s ?c ?n ?l ?_); (case s => walk_at "hp"); (case c => assumption); (case n => assumption); (case l => assumption)))
local macro_rules | `(tactic| walk_at "go") => `(tactic| repeat (walk_at "st"))
local macro_rules | `(tactic| walk_at "gi") => `(tactic| repeat (first | with_reducible refine rd_if ?_ | walk_at "st"))
namespace EW
open PySem L2
section
variable {CR CF : Addr} {H H' : Hp} {A : RA} {l : Nat} {L : Lg} {wk : List Tk} {rs0 : List Wo} {out : Option Out} {ov : V} {kvs : List (List Key × V)} {ls ws rs : List V}
theorem RunAt.pop {x : Wo} (h : RunAt CR CF H A ⟨l, L, wk, rs0 ++ [x], out⟩ ov kvs ls ws rs) : ∃ rs' v, rs = rs' ++ [v] ∧ RW CF H x v ∧
    ∀ H', Kp [A.lr] H H' → H' A.lr = some (.lst rs') → RunAt CR CF H' A ⟨l, L, wk, rs0, out⟩ ov kvs ls ws rs' ∧ RW CF H' x v := by
  obtain ⟨rs', v, e, h1, h2⟩ := R2.last h.rr
  have nf := h.nof.sub (RA.s_lr (A := A))
  exact ⟨rs', v, e, h2, fun H' k e' => ⟨h.chR k e' (h1.imp fun _ _ q => q.keep k nf), h2.keep k nf⟩⟩
theorem RunAt.push {x : Wo} {v : V} (h : RunAt CR CF H A ⟨l, L, wk, rs0, out⟩ ov kvs ls ws rs) (q : RW CF H x v) (k : Kp [A.lr] H H') (e : H' A.lr = some (.lst (rs ++ [v]))) : RunAt CR CF H' A ⟨l, L, wk, rs0 ++ [x], out⟩ ov kvs ls ws (rs ++ [v]) := by
  have nf := h.nof.sub (RA.s_lr (A := A))
  exact h.chR k e ((h.rr.imp fun _ _ q => q.keep k nf).snoc (q.keep k nf))
theorem RunAt.pushK {x : Tk} {v : V} (h : RunAt CR CF H A ⟨l, L, wk, rs0, out⟩ ov kvs ls ws rs) (q : RT H x v) (k : Kp [A.lw] H H') (e : H' A.lw = some (.lst (ws ++ [v]))) : RunAt CR CF H' A ⟨l, L, wk ++ [x], rs0, out⟩ ov kvs ls (ws ++ [v]) rs :=
  h.chK k e ((h.rk.imp fun _ _ q => q.mono k.tup).snoc (q.mono k.tup))
theorem RunAt.pushK2 {x y : Tk} {v u : V} (h : RunAt CR CF H A ⟨l, L, wk, rs0, out⟩ ov kvs ls ws rs) (q : RT H x v) (q2 : RT H y u) (k : Kp [A.lw] H H') (e : H' A.lw = some (.lst (ws ++ [v, u]))) : RunAt CR CF H' A ⟨l, L, wk ++ [x, y], rs0, out⟩ ov kvs ls (ws ++ [v, u]) rs := by
  refine h.chK k e ?_
  have := ((h.rk.imp fun _ _ q => q.mono k.tup).snoc (q.mono k.tup)).snoc (q2.mono k.tup)
  rw [List.append_assoc, List.append_assoc] at this
  exact this
theorem RunAt.pushK3 {x y z : Tk} {v u t : V} (h : RunAt CR CF H A ⟨l, L, wk, rs0, out⟩ ov kvs ls ws rs) (q : RT H x v) (q2 : RT H y u) (q3 : RT H z t) (k : Kp [A.lw] H H') (e : H' A.lw = some (.lst (ws ++ [v, u, t]))) : RunAt CR CF H' A ⟨l, L, wk ++ [x, y, z], rs0, out⟩ ov kvs ls (ws ++ [v, u, t]) rs := by
  refine h.chK k e ?_
  have := (((h.rk.imp fun _ _ q => q.mono k.tup).snoc (q.mono k.tup)).snoc (q2.mono k.tup)).snoc (q3.mono k.tup)
  rw [List.append_assoc, List.append_assoc, List.append_assoc, List.append_assoc] at this
  exact this
theorem RunAt.pushL {x : Nat × Nat × Nat} {v : V} (h : RunAt CR CF H A ⟨l, L, wk, rs0, out⟩ ov kvs ls ws rs) (q : RL H x v) (k : Kp [A.ll] H H') (e : H' A.ll = some (.lst (ls ++ [v]))) : RunAt CR CF H' A ⟨l, { L with lk := L.lk ++ [x] }, wk, rs0, out⟩ ov kvs (ls ++ [v]) ws rs :=
  h.chL k e ((h.rl.imp fun _ _ q => q.mono k.tup).snoc (q.mono k.tup))
theorem RunAt.pushM {x : Nat} (h : RunAt CR CF H A ⟨l, L, wk, rs0, out⟩ ov kvs ls ws rs) (k : Kp [A.lm] H H') (e : H' A.lm = some (.lst (L.md.map nV ++ [nV x]))) : RunAt CR CF H' A ⟨l, { L with md := L.md ++ [x] }, wk, rs0, out⟩ ov kvs ls ws rs :=
  h.chM k (by rw [e, List.map_append] <;> rfl)
theorem RunAt.pushO {x : Option Nat} (h : RunAt CR CF H A ⟨l, L, wk, rs0, out⟩ ov kvs ls ws rs) (k : Kp [A.lo] H H') (e : H' A.lo = some (.lst (L.ow.map oV ++ [oV x]))) : RunAt CR CF H' A ⟨l, { L with ow := L.ow ++ [x] }, wk, rs0, out⟩ ov kvs ls ws rs :=
  h.chO k (by rw [e, List.map_append] <;> rfl)
theorem RunAt.pushU {x : Option Nat} (h : RunAt CR CF H A ⟨l, L, wk, rs0, out⟩ ov kvs ls ws rs) (k : Kp [A.lu] H H') (e : H' A.lu = some (.lst (L.up.map oV ++ [oV x]))) : RunAt CR CF H' A ⟨l, { L with up := L.up ++ [x] }, wk, rs0, out⟩ ov kvs ls ws rs :=
  h.chU k (by rw [e, List.map_append] <;> rfl)
theorem RunAt.put {a s : Nat} {x : Wo} {v : V} (h : RunAt CR CF H A ⟨l, L, wk, rs0, out⟩ ov kvs ls ws rs) (f : L.wo.lookup (a, s) = none) (q : RW CF H x v) (k : Kp [A.dw] H H') (e : H' A.dw = some (.dT (putK kvs (kW (a, s)) v))) :
    RunAt CR CF H' A ⟨l, { L with wo := L.wo ++ [((a, s), x)] }, wk, rs0, out⟩ ov (kvs ++ [(kW (a, s), v)]) ls ws rs := by
  have nf := h.nof.sub (RA.s_dw (A := A))
  exact h.chW k (by rw [e, putK_new v (h.rw_.none f)]) ((h.rw_.imp fun _ _ q => q.keep k nf).snoc (q.keep k nf))
end
def OutR (H : Hp) : Option Out → V → Prop
  | none, v => v = .non
  | some .number, v => ∃ t, v = .ref t ∧ H t = some (.tup [.str "fault", .str "number"])
  | some .function, v => ∃ t, v = .ref t ∧ H t = some (.tup [.str "fault", .str "function"])
  | some .still, v => ∃ t, v = .ref t ∧ H t = some (.tup [.str "still"])
theorem OutR.mono {H H' : Hp} (t : Tups H H') : ∀ {o : Option Out} {v : V}, OutR H o v → OutR H' o v
  | none, _, h => h
  | some .number, _, ⟨a, e, h⟩ => ⟨a, e, t _ _ h⟩
  | some .function, _, ⟨a, e, h⟩ => ⟨a, e, t _ _ h⟩
  | some .still, _, ⟨a, e, h⟩ => ⟨a, e, t _ _ h⟩
def RPost (CR CF : Addr) (H : Hp) (A : RA) (N : MS) (Q : VK) : Prop := ∀ ov kvs ls ws rs H', RunAt CR CF H' A N ov kvs ls ws rs → OutR H' N.out ov → Kp A.M H H' → Q .non H'
def spOne (CR CF CS : Addr) (args : Hp → Tk → List V → Prop) : Sp := fun vs H Q _ => ∃ (A : RA) (tk : Tk) (l : Nat) (L : Lg) (wk : List Tk) (rs0 : List Wo) (N : MS) (kvs : List (List Key × V)) (ls ws rs : List V) (dxs : Addr) (fl : List (Str × V)) (lo : Addr) (os : List (Option Nat)) (vs' : List V),
  vs = .ref A.p :: vs' ∧ args H tk vs' ∧ RunAt CR CF H A ⟨l, L, wk, rs0, none⟩ .non kvs ls ws rs ∧ SiAt CS H A dxs fl lo os ∧ St1 (fun s => os[s]?) tk l L wk rs0 N ∧ MS.big ⟨l, L, wk, rs0, none⟩ 900000 ∧ RPost CR CF H A N Q
def aPlus : Hp → Tk → List V → Prop := fun _ tk vs => tk = .plus ∧ vs = []
def aCall : Hp → Tk → List V → Prop := fun _ tk vs => tk = .call ∧ vs = []
def aChoose : Hp → Tk → List V → Prop := fun H tk vs => ∃ a b h v, tk = .ite a b h ∧ vs = [v] ∧ RT H tk v
def aDo : Hp → Tk → List V → Prop := fun H tk vs => ∃ e h v, tk = .run e h ∧ vs = [v, nV h] ∧ RE H e v
theorem mod_nV (i j : Nat) : V.int (((i : Int) + (j : Int)).fmod 1000) = nV ((i + j) % 1000) := by
  rw [Int.fmod_eq_emod_of_nonneg _ (by decide)]
  rfl
section
variable {P : Program} {w : World} {K : PySem.W.Frag} {mg : Str → Option Value} {base : Heap} {a_SHAPES C_Sites C_Run C_Function : Addr}
theorem ok_Run_plus {f : Addr} {fd : FuncData} (A : AtM K C_Run "plus" "Run.plus" s_Run_plus ["self"] f fd) (T : TxtR K w mg a_SHAPES C_Sites C_Run C_Function) : HasM P w K mg base C_Run "plus" ["self"] 1 (spOne C_Run C_Function C_Sites aPlus) := by
  refine ⟨f, fd, A.F.ok sc_Run_plus (fun vs H Q EE h => ?_) (fun cdv A outer s H vs Q EE hr h => ?_), A.m, A.b⟩
  · obtain ⟨_, _, _, _, _, _, _, _, _, _, _, _, _, _, _, _, rfl, ⟨_, rfl⟩, _⟩ := h
    rfl
  obtain ⟨A', _, l, L, wk, rs0, N, kvs, ls, ws, rs, dxs, fl, lo, os, _, rfl, ⟨rfl, rfl⟩, R, S, x, big, q⟩ := h
  have hu := hu_of hr
  have cl := T.cl_Run
  have n1 := T.n_r "results" (by simp)
  have n2 := T.n_r "outcome" (by simp)
  have hob := R.ob
  have hhr := R.hr
  have e1 : ∀ ov, (runF A' l ov).lookup ("results" : Str) = some (.ref A'.lr) := fun _ => rfl
  have e1' := e1 .non
  refine ⟨_, (pss_cons (ps_set (i := 1) sc_Run_plus.nd rfl (Or.inl rfl) (pe_bm0 PySem.F.plainAttrs_list PySem.F.slot_list_pop PySem.F.type_list_pop mt_pop (w_fld (K := K) rfl (pv 0) rfl)))
      (pss_cons (ps_set (i := 2) sc_Run_plus.nd rfl (Or.inl rfl) (pe_bm0 PySem.F.plainAttrs_list PySem.F.slot_list_pop PySem.F.type_list_pop mt_pop (w_fld (K := K) rfl (pv 0) rfl)))
      (pss_one (ps_if (PW.pt (pw_or (pt_val (pe_callB (w_isi (K := K) rfl) (by rfl) T.z_isinstance (by decide +kernel) (pa_cons (pv 2) (pa_cons (pe_glob (v := .ref C_Function) (by rfl) T.m_Function rfl) pa_nil)))) (pw_or1 (pt_val (pe_callB (w_isi (K := K) rfl) (by rfl) T.z_isinstance (by decide +kernel) (pa_cons (pv 1) (pa_cons (pe_glob (v := .ref C_Function) (by rfl) T.m_Function rfl) pa_nil)))))))
        (pss_one (ps_fld (pv 0) (pe_tup (pa_cons pe_str (pa_cons pe_str pa_nil))) rfl))
        (pss_one (ps_expr (pe_bm PySem.F.plainAttrs_list PySem.F.slot_list_append PySem.F.type_list_append mt_append (w_fld (K := K) rfl (pv 0) rfl) (pa_cons (pe_op op_modN (pe_op op_add (pv 2) (pv 1)) (w_gint (n := 1000) (by rfl) T.m_LIMIT)) pa_nil)))))))), ?_⟩
  refine at_st (σ' := [some (.ref A'.p), none, none]) rfl ?_
  cases x with
  | @plus _ _ _ rs1 i j =>
    rw [show rs1 ++ [Wo.int i, Wo.int j] = (rs1 ++ [Wo.int i]) ++ [Wo.int j] by simp] at R
    obtain ⟨ra, vj, rfl, wj, P1⟩ := R.pop
    cases wj
    walk_at "go"
    refine rd_pop hhr fun H1 k1 h1 => ?_
    obtain ⟨R1, -⟩ := P1 H1 k1 h1
    obtain ⟨rb, vi, rfl, wi, P2⟩ := R1.pop
    cases wi
    have hob1 := R1.ob
    walk_at "go"
    refine rd_pop h1 fun H2 k2 h2 => ?_
    obtain ⟨R2', -⟩ := P2 H2 k2 h2
    have hob2 := R2'.ob
    have k12 := k1.trans k2
    clear k1 k2
    walk_at "gi"
    refine rd_isF0 T.own_F ?_
    walk_at "gi"
    refine rd_isF0 T.own_F ?_
    walk_at "gi"
    have hl := R2'.rr.length
    have b2 := big.2.1
    simp at b2
    refine rd_app h2 (by rw [← hl]; show rs1.length < _; omega) fun H3 k3 h3 => ?_
    rw [mod_nV] at h3
    exact q _ _ _ _ _ H3 (R2'.push (x := .int ((i + j) % 1000)) rfl k3 h3) rfl ((k12.trans k3).mono RA.s_lr)
  | @plusF _ _ _ rs1 x y f =>
    rw [show rs1 ++ [x, y] = (rs1 ++ [x]) ++ [y] by simp] at R
    obtain ⟨ra, vj, rfl, wj, P1⟩ := R.pop
    walk_at "go"
    refine rd_pop hhr fun H1 k1 h1 => ?_
    obtain ⟨R1, wj1⟩ := P1 H1 k1 h1
    obtain ⟨rb, vi, rfl, wi, P2⟩ := R1.pop
    have hob1 := R1.ob
    walk_at "go"
    refine rd_pop h1 fun H2 k2 h2 => ?_
    obtain ⟨R2', wi2⟩ := P2 H2 k2 h2
    have wj2 := wj1.keep k2 (R1.nof.sub RA.s_lr)
    have hob2 := R2'.ob
    have k12 := k1.trans k2
    clear k1 k2
    have fin : ∀ t H3, Kp [] H2 H3 → H3 t = some (.tup [.str "fault", .str "number"]) → ∀ H4, Kp [A'.p] H3 H4 → H4 A'.p = some (.ins C_Run A'.dx (runF A' l (.ref t))) → Q .non H4 := fun t H3 k3 h3 H4 k4 h4 =>
      q _ _ _ _ _ H4 ((R2'.keep0 k3).chP (out' := some .number) k4 h4) ⟨t, rfl, k4.tup _ _ h3⟩ ((k12.mono RA.s_lr).trans (k3.up.trans (k4.mono RA.s_p)))
    cases x with
    | clo s1 b1 u1 =>
      obtain ⟨a1, d1, y1, rfl, g1, _⟩ := wi2
      walk_at "gi"
      refine rd_isF1 T.own_F g1 ?_
      walk_at "gi"
      rename_i pt H3 np k3 h3
      exact rd_sfx (k3.keep _ _ hob2 ne_mem0) cl n2 (Nat.le_of_ble_eq_true rfl) fun H4 k4 h4 => fin pt H3 k3 h3 H4 k4 h4
    | int i =>
      cases wi2
      cases y with
      | int j => exact absurd f (fun z => by rcases z with z | z <;> exact z)
      | clo s1 b1 u1 =>
        obtain ⟨a1, d1, y1, rfl, g1, _⟩ := wj2
        walk_at "gi"
        refine rd_isF0 T.own_F ?_
        walk_at "gi"
        refine rd_isF1 T.own_F g1 ?_
        walk_at "gi"
        rename_i pt H3 np k3 h3
        exact rd_sfx (k3.keep _ _ hob2 ne_mem0) cl n2 (Nat.le_of_ble_eq_true rfl) fun H4 k4 h4 => fin pt H3 k3 h3 H4 k4 h4
theorem fn_keep {CF : Addr} {M : List Addr} {H H' : Hp} {a d : Addr} {s u : Nat} {y : V} (k : Kp M H H') (nf : NoF CF H M) (g : H a = some (.ins CF d (fnF s y u))) : H' a = some (.ins CF d (fnF s y u)) := k.keep _ _ g fun z => nf a z _ _ _ _ g
theorem ok_Run_choose {f : Addr} {fd : FuncData} (A : AtM K C_Run "choose" "Run.choose" s_Run_choose ["self", "task"] f fd) (T : TxtR K w mg a_SHAPES C_Sites C_Run C_Function) : HasM P w K mg base C_Run "choose" ["self", "task"] 1 (spOne C_Run C_Function C_Sites aChoose) := by
  refine ⟨f, fd, A.F.ok sc_Run_choose (fun vs H Q EE h => ?_) (fun cdv A outer s H vs Q EE hr h => ?_), A.m, A.b⟩
  · obtain ⟨_, _, _, _, _, _, _, _, _, _, _, _, _, _, _, _, rfl, ⟨_, _, _, _, _, rfl, _⟩, _⟩ := h
    rfl
  obtain ⟨A', _, l, L, wk, rs0, N, kvs, ls, ws, rs, dxs, fl, lo, os, _, rfl, ⟨ea, eb, h0, v, rfl, rfl, ht⟩, R, S, x, big, q⟩ := h
  have hu := hu_of hr
  have cl := T.cl_Run
  have n1 := T.n_r "results" (by simp)
  have n2 := T.n_r "outcome" (by simp)
  have n3 := T.n_r "work" (by simp)
  have hob := R.ob
  have hhr := R.hr
  have hhk := R.hk
  have e1' : (runF A' l .non).lookup ("results" : Str) = some (.ref A'.lr) := rfl
  have e2' : (runF A' l .non).lookup ("work" : Str) = some (.ref A'.lw) := rfl
  obtain ⟨t, xa, xb, rfl, ht, ra, rb⟩ := ht
  refine ⟨_, (pss_cons (ps_set (i := 2) sc_Run_choose.nd rfl (Or.inl rfl) (pe_bm0 PySem.F.plainAttrs_list PySem.F.slot_list_pop PySem.F.type_list_pop mt_pop (w_fld (K := K) rfl (pv 0) rfl)))
      (pss_one (ps_if (pt_val (pe_callB (w_isi (K := K) rfl) (by rfl) T.z_isinstance (by decide +kernel) (pa_cons (pv 2) (pa_cons (pe_glob (v := .ref C_Function) (by rfl) T.m_Function rfl) pa_nil))))
        (pss_one (ps_fld (pv 0) (pe_tup (pa_cons pe_str (pa_cons pe_str pa_nil))) rfl))
        (pss_one (ps_expr (pe_bm PySem.F.plainAttrs_list PySem.F.slot_list_append PySem.F.type_list_append mt_append (w_fld (K := K) rfl (pv 0) rfl) (pa_cons (pe_tup (pa_cons pe_str (pa_cons (pe_ifExp (pt_cmpR op_ne (pv 2) pe_int (nomark _)) (pe_ix (w_ixT (K := K) rfl) (pv 1) pe_int (fun _ _ => rfl)) (pe_ix (w_ixT (K := K) rfl) (pv 1) pe_int (fun _ _ => rfl))) (pa_cons (pe_ix (w_ixT (K := K) rfl) (pv 1) pe_int (fun _ _ => rfl)) pa_nil)))) pa_nil))))))), ?_⟩
  refine at_st (σ' := [some (.ref A'.p), some (.ref t), none]) rfl ?_
  have hlk := R.rk.length
  have b1 : wk.length ≤ 900000 := big.1
  have nn := R.nes
  cases x with
  | @iteT _ _ _ rs1 _ _ _ i f =>
    obtain ⟨rc, vi, rfl, wi, P1⟩ := R.pop
    cases wi
    walk_at "go"
    refine rd_pop hhr fun H1 k1 h1 => ?_
    obtain ⟨R1, -⟩ := P1 H1 k1 h1
    have hob1 := R1.ob
    have hhk1 := R1.hk
    walk_at "gi"
    refine rd_isF0 T.own_F ?_
    walk_at "gi"
    refine ite_nT (fun z => f (Int.ofNat.inj (V.int.inj z))) ?_
    walk_at "gi"
    rename_i pt H2 np k2 h2
    refine rd_app (k2.keep _ _ hhk1 ne_mem0) (by rw [← hlk]; show wk.length < _; omega) fun H3 k3 h3 => ?_
    exact q _ _ _ _ _ H3 ((R1.keep0 k2).pushK (x := .run ea h0) ⟨pt, xa, rfl, h2, (ra.mono k1.tup).mono k2.tup⟩ k3 h3) rfl ((k1.mono RA.s_lr).trans (k2.up.trans (k3.mono RA.s_lw)))
  | @iteE _ _ _ rs1 _ _ _ =>
    obtain ⟨rc, vi, rfl, wi, P1⟩ := R.pop
    cases wi
    walk_at "go"
    refine rd_pop hhr fun H1 k1 h1 => ?_
    obtain ⟨R1, -⟩ := P1 H1 k1 h1
    have hob1 := R1.ob
    have hhk1 := R1.hk
    walk_at "gi"
    refine rd_isF0 T.own_F ?_
    walk_at "gi"
    rename_i pt H2 np k2 h2
    refine rd_app (k2.keep _ _ hhk1 ne_mem0) (by rw [← hlk]; show wk.length < _; omega) fun H3 k3 h3 => ?_
    exact q _ _ _ _ _ H3 ((R1.keep0 k2).pushK (x := .run eb h0) ⟨pt, xb, rfl, h2, (rb.mono k1.tup).mono k2.tup⟩ k3 h3) rfl ((k1.mono RA.s_lr).trans (k2.up.trans (k3.mono RA.s_lw)))
  | @iteF _ _ _ rs1 _ _ _ x f =>
    obtain ⟨rc, vi, rfl, wi, P1⟩ := R.pop
    walk_at "go"
    refine rd_pop hhr fun H1 k1 h1 => ?_
    obtain ⟨R1, wi1⟩ := P1 H1 k1 h1
    have hob2 := R1.ob
    cases x with
    | int i => exact absurd f id
    | clo s1 b1 u1 =>
      obtain ⟨a1, d1, y1, rfl, g1, _⟩ := wi1
      walk_at "gi"
      refine rd_isF1 T.own_F g1 ?_
      walk_at "gi"
      rename_i pt H3 np k3 h3
      exact rd_sfx (k3.keep _ _ hob2 ne_mem0) cl n2 (Nat.le_of_ble_eq_true rfl) fun H4 k4 h4 =>
        q _ _ _ _ _ H4 ((R1.keep0 k3).chP (out' := some .number) k4 h4) ⟨pt, rfl, k4.tup _ _ h3⟩ ((k1.mono RA.s_lr).trans (k3.up.trans (k4.mono RA.s_p)))
end
end EW

end
section
open PySem L2 EW
local macro_rules | `(tactic| walk_at "ne") => `(tactic| first
  | assumption
  | exact Ne.symm (by assumption)
  | ((with_reducible refine' EW.RowAt.newne ?n ?h); (case n => assumption); (case h => walk_at "hp"))
  | ((with_reducible refine' Ne.symm (EW.RowAt.newne ?n ?h)); (case n => assumption); (case h => walk_at "hp"))
  | ((with_reducible refine' EW.BoxAt.newne ?n ?h); (case n => assumption); (case h => walk_at "hp"))
  | ((with_reducible refine' Ne.symm (EW.BoxAt.newne ?n ?h)); (case n => assumption); (case h => walk_at "hp")))
local macro_rules | `(tactic| walk_at "ns") => `(tactic| first
  | assumption
  | exact EW.RowAt.ne (by assumption)
  | ((with_reducible refine' EW.RowAt.notin ?n ?h); (case n => assumption); (case h => walk_at "hp")))
local macro_rules | `(tactic| walk_at "ni") => `(tactic| first
  | with_reducible exact EW.ne_mem0
  | with_reducible exact EW.dis0
  | ((with_reducible refine' EW.ne_mem1 ?h); (case h => walk_at "ne"))
  | ((with_reducible refine' EW.ne_mem2 ?h ?g); (case h => walk_at "ne"); (case g => walk_at "ne"))
  | ((with_reducible refine' EW.dis1 ?h); (case h => walk_at "ns"))
  | ((with_reducible refine' EW.dis2 ?h ?g); (case h => walk_at "ns"); (case g => walk_at "ns")))
local macro_rules | `(tactic| walk_at "hp") => `(tactic| first
  | assumption
  | ((with_reducible refine' EW.RE.mono (EW.Kp.tup ?k) ?h); (case k => assumption); (case h => walk_at "hp"))
  | ((with_reducible refine' EW.Kp.tup ?k _ _ ?h); (case k => assumption); (case h => walk_at "hp"))
  | ((with_reducible refine' EW.kp_tup ?k ?h); (case k => assumption); (case h => walk_at "hp"))
  | ((with_reducible refine' EW.Kp.keep ?k _ _ ?h ?n); (case k => assumption); (case h => walk_at "hp"); (case n => walk_at "ni"))
  | ((with_reducible refine' EW.Kp.seqL ?k ?h ?n); (case k => assumption); (case h => walk_at "hp"); (case n => walk_at "ni"))
  | ((with_reducible refine' EW.RowAt.keep ?k ?h ?n1 ?n2); (case k => assumption); (case h => walk_at "hp"); (case n1 => walk_at "ni"); (case n2 => walk_at "ni"))
  | ((with_reducible refine' EW.ScAt.keep ?k ?h ?n); (case k => assumption); (case h => walk_at "hp"); (case n => walk_at "ni"))
  | ((with_reducible refine' EW.BoxAt.keep ?k ?h ?n); (case k => assumption); (case h => walk_at "hp"); (case n => walk_at "ni"))
  | ((with_reducible refine' L2.SqL.of ?h); (case h => walk_at "hp"))
  | ((with_reducible refine' L2.SqT.of ?h); (case h => walk_at "hp")))
local macro_rules | `(tactic| walk_at "sb") => `(tactic| first
  | exact EW.sub0
  | exact EW.sub_refl
  | exact EW.sub_l
  | exact EW.sub_r)
local macro_rules | `(tactic| walk_at "kp") => `(tactic| first
  | exact EW.Kp.refl
  | assumption
  | ((with_reducible refine' EW.Kp.trans ?h (EW.Kp.mono ?k ?s)); (case k => assumption); (case s => walk_at "sb"); (case h => walk_at "kp")))
local macro_rules | `(tactic| walk_at "st") => `(tactic| first
  | with_reducible refine rd_seq ?_
  | with_reducible refine rd_next ?_
  | with_reducible refine rd_asg ?_
  | with_reducible refine rd_name ?_
  | with_reducible refine rd_ret ?_
  | with_reducible refine rd_drop ?_
  | ((with_reducible refine' rd_var ?e ?_); (case e => first | with_reducible assumption | exact rfl | assumption))
  | with_reducible refine rd_c ?_
  | with_reducible refine rd_op ?_
  | with_reducible refine rd_I0 ?_
  | with_reducible refine rd_test ?_
  | with_reducible refine rd_tB ?_
  | with_reducible refine rd_not ?_
  | with_reducible refine rd_and ?_
  | with_reducible refine rd_or ?_
  | with_reducible refine rd_ifE ?_
  | with_reducible refine rd_notV ?_
  | with_reducible refine rd_andV ?_
  | with_reducible refine rd_orV ?_
  | with_reducible refine rd_cons ?_
  | with_reducible refine EW.rd_par ?_
  | with_reducible refine EW.rd_par2 ?_
  | with_reducible refine EW.rd_parT ?_
  | with_reducible refine EW.rd_par3 ?_
  | with_reducible refine rd_nil ?_
  | with_reducible refine rd_cb ?_
  | with_reducible refine rd_call ?_
  | with_reducible refine rd_meth ?_
  | with_reducible refine rd_sub ?_
  | with_reducible refine rd_fl ?_
  | with_reducible refine rd_tup ?_
  | with_reducible refine rd_lst ?_
  | with_reducible refine rd_sl ?_
  | with_reducible refine rd_part ?_
  | with_reducible refine rd_partI ?_
  | with_reducible refine rd_nopart ?_
  | with_reducible refine rd_yes ?_
  | with_reducible refine rd_dnewK ?_
  | with_reducible refine rd_dnewT ?_
  | ((with_reducible refine' rd_isT ?h ?_); (case h => walk_at "hp"))
  | with_reducible refine rd_isI ?_
  | with_reducible refine rd_isII ?_
  | with_reducible refine rd_isIB ?_
  | ((with_reducible refine' rd_sum ?h ?_); (case h => walk_at "hp"))
  | ((with_reducible refine' rd_tail ?h ?_); (case h => walk_at "hp"))
  | ((with_reducible refine rd_newO ?_); intro _ _ _ _ _)
  | ((with_reducible refine' rd_lenS ?l ?_); (case l => exact rfl))
  | ((with_reducible refine' rd_ixS ?l ?e ?_); (case l => exact rfl); (case e => first | assumption | with_reducible exact EW.at_head | exact rfl))
  | with_reducible refine EW.ite_dT (by decide +kernel) ?_
  | with_reducible refine EW.ite_dF (by decide +kernel) ?_
  | with_reducible refine EW.ite_nT (by decide +kernel) ?_
  | with_reducible refine EW.ite_nF (by decide +kernel) ?_
  | with_reducible refine EW.iteNF ?_
  | with_reducible refine EW.iteNT ?_
  | with_reducible refine EW.iteEC ?_
  | with_reducible refine EW.iteEN ?_
  | with_reducible refine EW.iteNC ?_
  | with_reducible refine EW.iteNN ?_
  | with_reducible refine EW.rd_kget (by assumption) ?_
  | with_reducible refine EW.rd_kgx (by assumption) _ ?_
  | with_reducible refine EW.rd_ixD (by assumption) _ ?_
  | with_reducible refine EW.rd_chain ?_
  | with_reducible refine L2.iteT ?_
  | with_reducible refine L2.iteF ?_
  | with_reducible refine rd_bm ?_
  | with_reducible refine rd_bm0 ?_
  | with_reducible refine rd_sfld ?_
  | with_reducible refine rd_make ?_
  | ((with_reducible refine' rd_bmL ?s ?_); (case s => walk_at "hp"))
  | ((with_reducible refine' rd_bm0L ?s ?_); (case s => walk_at "hp"))
  | ((with_reducible refine' rd_mex ?s ?l ?_); (case s => walk_at "hp"); (case l => assumption))
  | with_reducible refine rd_lc ?_
  | with_reducible refine rd_for ?_
  | with_reducible refine rd_il ?_
  | with_reducible refine rd_it ?_
  | with_reducible refine rd_ir ?_
  | with_reducible refine rd_dput ?_
  | with_reducible refine rd_dget ?_
  | ((with_reducible refine' rd_ilx ?s ?_); (case s => walk_at "hp"))
  | ((with_reducible refine' rd_itx ?s ?_); (case s => walk_at "hp"))
  | ((with_reducible refine' rd_getK ?s ?e ?_); (case s => walk_at "hp"); (case e => assumption))
  | ((with_reducible refine rd_newT rfl ?_); intro _ _ _ _ _)
  | ((with_reducible refine rd_newL rfl ?_); intro _ _ _ _ _)
  | ((with_reducible refine' rd_taken ?a ?b ?c ?_); (case a => walk_at "hp"); (case b => first | omega | decide); (case c => first | omega | decide); intro _ _ _ _ _)
  | ((with_reducible refine' rd_neE ?a ?b ?_); (case a => walk_at "hp"); (case b => walk_at "hp"))
  | ((with_reducible refine' rd_eqE ?a ?b ?_); (case a => walk_at "hp"); (case b => walk_at "hp"))
  | with_reducible refine rd_eq rfl ?_
  | with_reducible refine rd_ne rfl ?_
  | with_reducible refine rd_bl ?_
  | ((with_reducible refine rd_I ?c ?_); (case c => first | assumption | omega | decide | (exact Or.inl ⟨by omega, by omega⟩) | (exact ⟨by omega, by omega⟩) | (exact ⟨by decide, by decide, by decide⟩)))
  | refine Or.inl ⟨_, rfl, ?_⟩
  | refine Or.inr ⟨_, rfl, ?_⟩
  | ((with_reducible refine' rd_lenL ?s ?_); (case s => walk_at "hp"))
  | ((with_reducible refine' rd_lenT ?s ?_); (case s => walk_at "hp"))
  | ((with_reducible refine' rd_ixL ?s ?e ?_); (case s => walk_at "hp"); (case e => first | assumption | with_reducible exact EW.at_head | exact rfl))
  | ((with_reducible refine' rd_ixT ?s ?e ?_); (case s => walk_at "hp"); (case e => first | assumption | with_reducible exact EW.at_head | exact rfl))
  | ((with_reducible refine' rd_flx ?s ?c ?n ?l ?_); (case s => walk_at "hp"); (case c => assumption); (case n => assumption); (case l => assumption)))
local macro_rules | `(tactic| walk_at "go") => `(tactic| repeat (walk_at "st"))
local macro_rules | `(tactic| walk_at "gi") => `(tactic| repeat (first | with_reducible refine rd_if ?_ | walk_at "st"))
namespace EW
open PySem L2
section
variable {P : Program} {w : World} {K : PySem.W.Frag} {mg : Str → Option Value} {base : Heap} {a_SHAPES C_Sites C_Run C_Function : Addr}
theorem ok_Run_call {f : Addr} {fd : FuncData} (A : AtM K C_Run "call" "Run.call" s_Run_call ["self"] f fd) (T : TxtR K w mg a_SHAPES C_Sites C_Run C_Function) : HasM P w K mg base C_Run "call" ["self"] 1 (spOne C_Run C_Function C_Sites aCall) := by
  refine ⟨f, fd, A.F.ok sc_Run_call (fun vs H Q EE h => ?_) (fun cdv A outer s H vs Q EE hr h => ?_), A.m, A.b⟩
  · obtain ⟨_, _, _, _, _, _, _, _, _, _, _, _, _, _, _, _, rfl, ⟨_, rfl⟩, _⟩ := h
    rfl
  obtain ⟨A', _, l, L, wk, rs0, N, kvs, ls, ws, rs, dxs, fl, lo, os, _, rfl, ⟨rfl, rfl⟩, R, S, x, big, q⟩ := h
  have hu := hu_of hr
  have cl := T.cl_Run
  have cf := T.cl_Function
  have n1 := T.n_r "results" (by simp)
  have n2 := T.n_r "outcome" (by simp)
  have n3 := T.n_r "work" (by simp)
  have n4 := T.n_r "left" (by simp)
  have n5 := T.n_r "owners" (by simp)
  have n6 := T.n_r "ups" (by simp)
  have n7 := T.n_r "worths" (by simp)
  have f1 := T.n_f "site" (by simp)
  have f2 := T.n_f "body" (by simp)
  have f3 := T.n_f "made_by" (by simp)
  have hob := R.ob
  have hhr := R.hr
  have e1 : ∀ l ov, (runF A' l ov).lookup ("results" : Str) = some (.ref A'.lr) := fun _ _ => rfl
  have e2 : ∀ l ov, (runF A' l ov).lookup ("left" : Str) = some (nV l) := fun _ _ => rfl
  have e3 : ∀ l ov, (runF A' l ov).lookup ("owners" : Str) = some (.ref A'.lo) := fun _ _ => rfl
  have e4 : ∀ l ov, (runF A' l ov).lookup ("ups" : Str) = some (.ref A'.lu) := fun _ _ => rfl
  have e5 : ∀ l ov, (runF A' l ov).lookup ("worths" : Str) = some (.ref A'.dw) := fun _ _ => rfl
  have e6 : ∀ l ov, (runF A' l ov).lookup ("work" : Str) = some (.ref A'.lw) := fun _ _ => rfl
  have e1' := e1 l .non
  have e2' := e2 l .non
  have hlk := R.rk.length
  obtain ⟨b1, b2, b3, b4, b5, b6, b7⟩ := id big
  refine ⟨_, (pss_cons (ps_set (i := 1) sc_Run_call.nd rfl (Or.inl rfl) (pe_bm0 PySem.F.plainAttrs_list PySem.F.slot_list_pop PySem.F.type_list_pop mt_pop (w_fld (K := K) rfl (pv 0) rfl)))
      (pss_cons (ps_set (i := 2) sc_Run_call.nd rfl (Or.inl rfl) (pe_bm0 PySem.F.plainAttrs_list PySem.F.slot_list_pop PySem.F.type_list_pop mt_pop (w_fld (K := K) rfl (pv 0) rfl)))
      (pss_one (ps_if (pt_not (pt_val (pe_callB (w_isi (K := K) rfl) (by rfl) T.z_isinstance (by decide +kernel) (pa_cons (pv 2) (pa_cons (pe_glob (v := .ref C_Function) (by rfl) T.m_Function rfl) pa_nil)))))
        (pss_one (ps_fld (pv 0) (pe_tup (pa_cons pe_str (pa_cons pe_str pa_nil))) rfl))
        (pss_one (ps_if (pt_cmpR op_eq (w_fld (K := K) rfl (pv 0) rfl) pe_int (nomark _))
          (pss_one (ps_fld (pv 0) (pe_tup (pa_cons pe_str pa_nil)) rfl))
          (pss_cons (ps_fld (pv 0) (pe_op op_sub (w_fld (K := K) rfl (pv 0) rfl) pe_int) rfl)
          (pss_cons (ps_set (i := 3) sc_Run_call.nd rfl (Or.inl rfl) (pe_callB (w_len (K := K) rfl) (by rfl) T.z_len PySem.boot_len (pa_cons (w_fld (K := K) rfl (pv 0) rfl) pa_nil)))
          (pss_cons (ps_expr (pe_bm PySem.F.plainAttrs_list PySem.F.slot_list_append PySem.F.type_list_append mt_append (w_fld (K := K) rfl (pv 0) rfl) (pa_cons (w_fld (K := K) rfl (pv 2) rfl) pa_nil)))
          (pss_cons (ps_expr (pe_bm PySem.F.plainAttrs_list PySem.F.slot_list_append PySem.F.type_list_append mt_append (w_fld (K := K) rfl (pv 0) rfl) (pa_cons (w_fld (K := K) rfl (pv 2) rfl) pa_nil)))
          (pss_cons (ps_dput hu (w_fld (K := K) rfl (pv 0) rfl) (pe_tup (pa_cons (pv 3) (pa_cons (w_fld (K := K) rfl (pv 2) rfl) pa_nil))) (pv 1) rfl)
          (pss_one (ps_expr (pe_bm PySem.F.plainAttrs_list PySem.F.slot_list_append PySem.F.type_list_append mt_append (w_fld (K := K) rfl (pv 0) rfl) (pa_cons (pe_tup (pa_cons pe_str (pa_cons (w_fld (K := K) rfl (pv 2) rfl) (pa_cons (pv 3) pa_nil)))) pa_nil))))))))))))))), ?_⟩
  refine at_st (σ' := [some (.ref A'.p), none, none, none]) rfl ?_
  cases x with
  | @callF _ _ _ rs1 i y =>
    rw [show rs1 ++ [Wo.int i, y] = (rs1 ++ [Wo.int i]) ++ [y] by simp] at R
    obtain ⟨ra, vj, rfl, wj, P1⟩ := R.pop
    walk_at "go"
    refine rd_pop hhr fun H1 k1 h1 => ?_
    obtain ⟨R1, wj1⟩ := P1 H1 k1 h1
    obtain ⟨rb, vi, rfl, wi, P2⟩ := R1.pop
    cases wi
    have hob1 := R1.ob
    walk_at "go"
    refine rd_pop h1 fun H2 k2 h2 => ?_
    obtain ⟨R2', -⟩ := P2 H2 k2 h2
    have hob2 := R2'.ob
    have k12 := k1.trans k2
    clear k1 k2
    walk_at "gi"
    refine rd_isF0 T.own_F ?_
    walk_at "gi"
    rename_i pt H3 np k3 h3
    exact rd_sfx (k3.keep _ _ hob2 ne_mem0) cl n2 (Nat.le_of_ble_eq_true rfl) fun H4 k4 h4 =>
      q _ _ _ _ _ H4 ((R2'.keep0 k3).chP (out' := some .function) k4 h4) ⟨pt, rfl, k4.tup _ _ h3⟩ ((k12.mono RA.s_lr).trans (k3.up.trans (k4.mono RA.s_p)))
  | @callL _ _ rs1 s1 b u1 y =>
    rw [show rs1 ++ [Wo.clo s1 b u1, y] = (rs1 ++ [Wo.clo s1 b u1]) ++ [y] by simp] at R
    obtain ⟨ra, vj, rfl, wj, P1⟩ := R.pop
    walk_at "go"
    refine rd_pop hhr fun H1 k1 h1 => ?_
    obtain ⟨R1, wj1⟩ := P1 H1 k1 h1
    obtain ⟨rb, vi, rfl, wi, P2⟩ := R1.pop
    have hob1 := R1.ob
    walk_at "go"
    refine rd_pop h1 fun H2 k2 h2 => ?_
    obtain ⟨R2', wi2⟩ := P2 H2 k2 h2
    obtain ⟨a1, d1, y1, rfl, g1, _⟩ := wi2
    have hob2 := R2'.ob
    have k12 := k1.trans k2
    clear k1 k2
    walk_at "gi"
    refine rd_isF1 T.own_F g1 ?_
    walk_at "gi"
    rename_i pt H3 np k3 h3
    exact rd_sfx (k3.keep _ _ hob2 ne_mem0) cl n2 (Nat.le_of_ble_eq_true rfl) fun H4 k4 h4 =>
      q _ _ _ _ _ H4 ((R2'.keep0 k3).chP (out' := some .still) k4 h4) ⟨pt, rfl, k4.tup _ _ h3⟩ ((k12.mono RA.s_lr).trans (k3.up.trans (k4.mono RA.s_p)))
  | @call l _ _ rs1 s1 b u1 y fr =>
    rw [show rs1 ++ [Wo.clo s1 b u1, y] = (rs1 ++ [Wo.clo s1 b u1]) ++ [y] by simp] at R
    obtain ⟨ra, vj, rfl, wj, P1⟩ := R.pop
    walk_at "go"
    refine rd_pop hhr fun H1 k1 h1 => ?_
    obtain ⟨R1, wj1⟩ := P1 H1 k1 h1
    obtain ⟨rb, vi, rfl, wi, P2⟩ := R1.pop
    have hob1 := R1.ob
    walk_at "go"
    refine rd_pop h1 fun H2 k2 h2 => ?_
    obtain ⟨R2', wi2⟩ := P2 H2 k2 h2
    have wj2 := wj1.keep k2 (R1.nof.sub RA.s_lr)
    obtain ⟨a1, d1, y1, rfl, g1, re1⟩ := wi2
    have hob2 := R2'.ob
    have k12 : Kp A'.M H H2 := (k1.trans k2).mono RA.s_lr
    clear k1 k2
    walk_at "gi"
    refine rd_isF1 T.own_F g1 ?_
    walk_at "gi"
    refine ite_dF (fun z => by have := V.int.inj z; omega) ?_
    walk_at "gi"
    have hsub : V.int (((l + 1 : Nat) : Int) - 1) = nV l := by
      have : ((l + 1 : Nat) : Int) - 1 = (l : Int) := by omega
      rw [this]
    refine rd_sfx hob2 cl n4 (Nat.le_of_ble_eq_true rfl) fun H3 k3 h3 => ?_
    rw [hsub] at h3
    have R3 := R2'.chP (left' := l) (ov' := .non) (out' := none) k3 h3
    have g3 := fn_keep k3 (R2'.nof.sub RA.s_p) g1
    have w3 := wj2.keep k3 (R2'.nof.sub RA.s_p)
    have hob3 := R3.ob
    have hho3 := R3.ho
    have e7 : (fnF s1 y1 u1).lookup ("site" : Str) = some (nV s1) := rfl
    have e8 : (fnF s1 y1 u1).lookup ("body" : Str) = some y1 := rfl
    have e9 : (fnF s1 y1 u1).lookup ("made_by" : Str) = some (nV u1) := rfl
    have e3' := e3 l .non
    have e4' := e4 l .non
    have e5' := e5 l .non
    have e6' := e6 l .non
    have re3 := re1.mono k3.tup
    have k13 : Kp A'.M H H3 := k12.trans (k3.mono RA.s_p)
    clear k12 k3
    have hln : (L.ow.map oV).length = L.ow.length := List.length_map _
    walk_at "gi"
    refine rd_app hho3 (by rw [hln]; show L.ow.length < _; exact Nat.lt_of_le_of_lt b3 (by decide)) fun H4 k4 h4 => ?_
    have R4 := R3.pushO (x := some s1) k4 h4
    have g4 := fn_keep k4 (R3.nof.sub RA.s_lo) g3
    have w4 := w3.keep k4 (R3.nof.sub RA.s_lo)
    have hob4 := R4.ob
    have hhu4 := R4.hu
    have re4 := re3.mono k4.tup
    have k14 := k13.trans (k4.mono RA.s_lo)
    clear k13 k4
    walk_at "gi"
    refine rd_app hhu4 (by rw [List.length_map]; show L.up.length < _; exact Nat.lt_of_le_of_lt b4 (by decide)) fun H5 k5 h5 => ?_
    have R5 := R4.pushU (x := some u1) k5 h5
    have g5 := fn_keep k5 (R4.nof.sub RA.s_lu) g4
    have w5 := w4.keep k5 (R4.nof.sub RA.s_lu)
    have hob5 := R5.ob
    have re5 := re4.mono k5.tup
    have k15 := k14.trans (k5.mono RA.s_lu)
    clear k14 k5
    walk_at "gi"
    rename_i pb H6 nb k6 h6
    have R6 := R5.keep0 k6
    have g6 := fn_keep k6 .nil g5
    have w6 := w5.keep k6 .nil
    rw [hln] at h6
    have hlw := R6.rw_.length
    refine rd_putT (ks := kW (L.ow.length, s1)) R6.hw h6 (by rw [← hlw]; show L.wo.length < _; exact Nat.lt_of_le_of_lt b5 (by decide)) fun H7 k7 h7 => ?_
    have R7 := R6.put fr w6 k7 h7
    have g7 := fn_keep k7 (R6.nof.sub RA.s_dw) g6
    have hob7 := R7.ob
    have hhk7 := R7.hk
    have re7 := (re5.mono k6.tup).mono k7.tup
    have k17 := (k15.trans k6.up).trans (k7.mono RA.s_dw)
    clear k15 k6 k7
    walk_at "gi"
    rename_i pt H8 np k8 h8
    rw [hln] at h8
    refine rd_app (k8.keep _ _ hhk7 ne_mem0) (by rw [← hlk]; show wk.length < _; exact Nat.lt_of_le_of_lt b1 (by decide)) fun H9 k9 h9 => ?_
    exact q _ _ _ _ _ H9 ((R7.keep0 k8).pushK (x := .run b L.ow.length) ⟨pt, y1, rfl, h8, re7.mono k8.tup⟩ k9 h9) rfl ((k17.trans k8.up).trans (k9.mono RA.s_lw))
end
end EW

end
section
open PySem L2 EW
local macro_rules | `(tactic| walk_at "ne") => `(tactic| first
  | assumption
  | exact Ne.symm (by assumption)
  | ((with_reducible refine' EW.RowAt.newne ?n ?h); (case n => assumption); (case h => walk_at "hp"))
  | ((with_reducible refine' Ne.symm (EW.RowAt.newne ?n ?h)); (case n => assumption); (case h => walk_at "hp"))
  | ((with_reducible refine' EW.BoxAt.newne ?n ?h); (case n => assumption); (case h => walk_at "hp"))
  | ((with_reducible refine' Ne.symm (EW.BoxAt.newne ?n ?h)); (case n => assumption); (case h => walk_at "hp")))
local macro_rules | `(tactic| walk_at "ns") => `(tactic| first
  | assumption
  | exact EW.RowAt.ne (by assumption)
  | ((with_reducible refine' EW.RowAt.notin ?n ?h); (case n => assumption); (case h => walk_at "hp")))
local macro_rules | `(tactic| walk_at "ni") => `(tactic| first
  | with_reducible exact EW.ne_mem0
  | with_reducible exact EW.dis0
  | ((with_reducible refine' EW.ne_mem1 ?h); (case h => walk_at "ne"))
  | ((with_reducible refine' EW.ne_mem2 ?h ?g); (case h => walk_at "ne"); (case g => walk_at "ne"))
  | ((with_reducible refine' EW.dis1 ?h); (case h => walk_at "ns"))
  | ((with_reducible refine' EW.dis2 ?h ?g); (case h => walk_at "ns"); (case g => walk_at "ns")))
local macro_rules | `(tactic| walk_at "hp") => `(tactic| first
  | assumption
  | ((with_reducible refine' EW.RE.mono (EW.Kp.tup ?k) ?h); (case k => assumption); (case h => walk_at "hp"))
  | ((with_reducible refine' EW.Kp.tup ?k _ _ ?h); (case k => assumption); (case h => walk_at "hp"))
  | ((with_reducible refine' EW.kp_tup ?k ?h); (case k => assumption); (case h => walk_at "hp"))
  | ((with_reducible refine' EW.Kp.keep ?k _ _ ?h ?n); (case k => assumption); (case h => walk_at "hp"); (case n => walk_at "ni"))
  | ((with_reducible refine' EW.Kp.seqL ?k ?h ?n); (case k => assumption); (case h => walk_at "hp"); (case n => walk_at "ni"))
  | ((with_reducible refine' EW.RowAt.keep ?k ?h ?n1 ?n2); (case k => assumption); (case h => walk_at "hp"); (case n1 => walk_at "ni"); (case n2 => walk_at "ni"))
  | ((with_reducible refine' EW.ScAt.keep ?k ?h ?n); (case k => assumption); (case h => walk_at "hp"); (case n => walk_at "ni"))
  | ((with_reducible refine' EW.BoxAt.keep ?k ?h ?n); (case k => assumption); (case h => walk_at "hp"); (case n => walk_at "ni"))
  | ((with_reducible refine' L2.SqL.of ?h); (case h => walk_at "hp"))
  | ((with_reducible refine' L2.SqT.of ?h); (case h => walk_at "hp")))
local macro_rules | `(tactic| walk_at "sb") => `(tactic| first
  | exact EW.sub0
  | exact EW.sub_refl
  | exact EW.sub_l
  | exact EW.sub_r)
local macro_rules | `(tactic| walk_at "kp") => `(tactic| first
  | exact EW.Kp.refl
  | assumption
  | ((with_reducible refine' EW.Kp.trans ?h (EW.Kp.mono ?k ?s)); (case k => assumption); (case s => walk_at "sb"); (case h => walk_at "kp")))
local macro_rules | `(tactic| walk_at "st") => `(tactic| first
  | with_reducible refine rd_seq ?_
  | with_reducible refine rd_next ?_
  | with_reducible refine rd_asg ?_
  | with_reducible refine rd_name ?_
  | with_reducible refine rd_ret ?_
  | with_reducible refine rd_drop ?_
  | ((with_reducible refine' rd_var ?e ?_); (case e => first | with_reducible assumption | exact rfl | assumption))
  | with_reducible refine rd_c ?_
  | with_reducible refine rd_op ?_
  | with_reducible refine rd_I0 ?_
  | with_reducible refine rd_test ?_
  | with_reducible refine rd_tB ?_
  | with_reducible refine rd_not ?_
  | with_reducible refine rd_and ?_
  | with_reducible refine rd_or ?_
  | with_reducible refine rd_ifE ?_
  | with_reducible refine rd_notV ?_
  | with_reducible refine rd_andV ?_
  | with_reducible refine rd_orV ?_
  | with_reducible refine rd_cons ?_
  | with_reducible refine EW.rd_par ?_
  | with_reducible refine EW.rd_par2 ?_
  | with_reducible refine EW.rd_parT ?_
  | with_reducible refine EW.rd_par3 ?_
  | with_reducible refine rd_nil ?_
  | with_reducible refine rd_cb ?_
  | with_reducible refine rd_call ?_
  | with_reducible refine rd_meth ?_
  | with_reducible refine rd_sub ?_
  | with_reducible refine rd_fl ?_
  | with_reducible refine rd_tup ?_
  | with_reducible refine rd_lst ?_
  | with_reducible refine rd_sl ?_
  | with_reducible refine rd_part ?_
  | with_reducible refine rd_partI ?_
  | with_reducible refine rd_nopart ?_
  | with_reducible refine rd_yes ?_
  | with_reducible refine rd_dnewK ?_
  | with_reducible refine rd_dnewT ?_
  | ((with_reducible refine' rd_isT ?h ?_); (case h => walk_at "hp"))
  | with_reducible refine rd_isI ?_
  | with_reducible refine rd_isII ?_
  | with_reducible refine rd_isIB ?_
  | ((with_reducible refine' rd_sum ?h ?_); (case h => walk_at "hp"))
  | ((with_reducible refine' rd_tail ?h ?_); (case h => walk_at "hp"))
  | ((with_reducible refine rd_newO ?_); intro _ _ _ _ _)
  | ((with_reducible refine' rd_lenS ?l ?_); (case l => exact rfl))
  | ((with_reducible refine' rd_ixS ?l ?e ?_); (case l => exact rfl); (case e => first | assumption | with_reducible exact EW.at_head | exact rfl))
  | with_reducible refine EW.ite_dT (by decide +kernel) ?_
  | with_reducible refine EW.ite_dF (by decide +kernel) ?_
  | with_reducible refine EW.ite_nT (by decide +kernel) ?_
  | with_reducible refine EW.ite_nF (by decide +kernel) ?_
  | with_reducible refine EW.iteNF ?_
  | with_reducible refine EW.iteNT ?_
  | with_reducible refine EW.iteEC ?_
  | with_reducible refine EW.iteEN ?_
  | with_reducible refine EW.iteNC ?_
  | with_reducible refine EW.iteNN ?_
  | with_reducible refine EW.rd_kget (by assumption) ?_
  | with_reducible refine EW.rd_kgx (by assumption) _ ?_
  | with_reducible refine EW.rd_ixD (by assumption) _ ?_
  | with_reducible refine EW.rd_chain ?_
  | with_reducible refine L2.iteT ?_
  | with_reducible refine L2.iteF ?_
  | with_reducible refine rd_bm ?_
  | with_reducible refine rd_bm0 ?_
  | with_reducible refine rd_sfld ?_
  | with_reducible refine rd_make ?_
  | ((with_reducible refine' rd_bmL ?s ?_); (case s => walk_at "hp"))
  | ((with_reducible refine' rd_bm0L ?s ?_); (case s => walk_at "hp"))
  | ((with_reducible refine' rd_mex ?s ?l ?_); (case s => walk_at "hp"); (case l => assumption))
  | with_reducible refine rd_lc ?_
  | with_reducible refine rd_for ?_
  | with_reducible refine rd_il ?_
  | with_reducible refine rd_it ?_
  | with_reducible refine rd_ir ?_
  | with_reducible refine rd_dput ?_
  | with_reducible refine rd_dget ?_
  | ((with_reducible refine' rd_ilx ?s ?_); (case s => walk_at "hp"))
  | ((with_reducible refine' rd_itx ?s ?_); (case s => walk_at "hp"))
  | ((with_reducible refine' rd_getK ?s ?e ?_); (case s => walk_at "hp"); (case e => assumption))
  | ((with_reducible refine rd_newT rfl ?_); intro _ _ _ _ _)
  | ((with_reducible refine rd_newL rfl ?_); intro _ _ _ _ _)
  | ((with_reducible refine' rd_taken ?a ?b ?c ?_); (case a => walk_at "hp"); (case b => first | omega | decide); (case c => first | omega | decide); intro _ _ _ _ _)
  | ((with_reducible refine' rd_neE ?a ?b ?_); (case a => walk_at "hp"); (case b => walk_at "hp"))
  | ((with_reducible refine' rd_eqE ?a ?b ?_); (case a => walk_at "hp"); (case b => walk_at "hp"))
  | with_reducible refine rd_eq rfl ?_
  | with_reducible refine rd_ne rfl ?_
  | with_reducible refine rd_bl ?_
  | ((with_reducible refine rd_I ?c ?_); (case c => first | assumption | omega | decide | (exact Or.inl ⟨by omega, by omega⟩) | (exact ⟨by omega, by omega⟩) | (exact ⟨by decide, by decide, by decide⟩)))
  | refine Or.inl ⟨_, rfl, ?_⟩
  | refine Or.inr ⟨_, rfl, ?_⟩
  | ((with_reducible refine' rd_lenL ?s ?_); (case s => walk_at "hp"))
  | ((with_reducible refine' rd_lenT ?s ?_); (case s => walk_at "hp"))
  | ((with_reducible refine' rd_ixL ?s ?e ?_); (case s => walk_at "hp"); (case e => first | assumption | with_reducible exact EW.at_head | exact rfl))
  | ((with_reducible refine' rd_ixT ?s ?e ?_); (case s => walk_at "hp"); (case e => first | assumption | with_reducible exact EW.at_head | exact rfl))
  | ((with_reducible refine' rd_flx ?s ?c ?n ?l ?_); (case s => walk_at "hp"); (case c => assumption); (case n => assumption); (case l => assumption)))
local macro_rules | `(tactic| walk_at "go") => `(tactic| repeat (walk_at "st"))
local macro_rules | `(tactic| walk_at "gi") => `(tactic| repeat (first | with_reducible refine rd_if ?_ | walk_at "st"))
namespace EW
open PySem L2
def spFn (CF : Addr) : Sp := fun vs H Q _ => ∃ (x dx : Addr) (s u : Nat) (y : V), vs = [.ref x, nV s, y, nV u] ∧ H x = some (.ins CF dx []) ∧ ∀ H', H' x = some (.ins CF dx (fnF s y u)) → Kp [x] H H' → Q .non H'
section
variable {P : Program} {w : World} {K : PySem.W.Frag} {mg : Str → Option Value} {base : Heap} {a_SHAPES C_Sites C_Run C_Function : Addr}
theorem ok_Function {f : Addr} {fd : FuncData} (A : AtC K C_Function "Function.__init__" s_Function___init__ ["self", "site", "body", "made_by"] f fd) (T : TxtR K w mg a_SHAPES C_Sites C_Run C_Function) : HasC P w K mg base C_Function ["self", "site", "body", "made_by"] 1 (spFn C_Function) := by
  refine ⟨f, fd, A.F.ok sc_Function___init__ (fun vs H Q EE h => ?_) (fun cdv A outer s H vs Q EE hr h => ?_), A.m, A.b⟩
  · obtain ⟨_, _, _, _, _, rfl, _⟩ := h
    rfl
  obtain ⟨x, dx, s0, u0, y, rfl, hx, q⟩ := h
  have cl := T.cl_Function
  have f1 := T.n_f "site" (by simp)
  have f2 := T.n_f "body" (by simp)
  have f3 := T.n_f "made_by" (by simp)
  refine ⟨_, (pss_cons (ps_fld (pv 0) (pv 1) rfl)
      (pss_cons (ps_fld (pv 0) (pv 2) rfl)
      (pss_one (ps_fld (pv 0) (pv 3) rfl)))), ?_⟩
  refine at_st (σ' := [some (.ref x), some (nV s0), some y, some (nV u0)]) rfl ?_
  walk_at "go"
  refine rd_sfx hx cl f1 (Nat.le_of_ble_eq_true rfl) fun H1 k1 h1 => ?_
  walk_at "go"
  refine rd_sfx h1 cl f2 (Nat.le_of_ble_eq_true rfl) fun H2 k2 h2 => ?_
  walk_at "go"
  refine rd_sfx h2 cl f3 (Nat.le_of_ble_eq_true rfl) fun H3 k3 h3 => ?_
  exact q H3 h3 ((k1.trans k2).trans k3)
theorem ok_Run_do {f : Addr} {fd : FuncData} (A : AtM K C_Run "do" "Run.do" s_Run_do ["self", "e", "here"] f fd) (T : TxtR K w mg a_SHAPES C_Sites C_Run C_Function)
    (c_Run_holder : HasM P w K mg base C_Run "holder" ["self", "here", "site"] 1 (spHolder C_Run C_Function C_Sites)) (c_Function : HasC P w K mg base C_Function ["self", "site", "body", "made_by"] 1 (spFn C_Function)) : HasM P w K mg base C_Run "do" ["self", "e", "here"] 3 (spOne C_Run C_Function C_Sites aDo) := by
  obtain ⟨f_Run_holder, fd_Run_holder, G_Run_holder, me_Run_holder, b_Run_holder⟩ := c_Run_holder
  obtain ⟨f_Function, fd_Function, G_Function, M_Function, b_Function⟩ := c_Function
  refine ⟨f, fd, A.F.ok sc_Run_do (fun vs H Q EE h => ?_) (fun cdv A outer s H vs Q EE hr h => ?_), A.m, A.b⟩
  · obtain ⟨_, _, _, _, _, _, _, _, _, _, _, _, _, _, _, _, rfl, ⟨_, _, _, _, rfl, _⟩, _⟩ := h
    rfl
  obtain ⟨A', _, l, L, wk, rs0, N, kvs, ls, ws, rs, dxs, fl, lo, os, _, rfl, ⟨e, h0, v, rfl, rfl, hre⟩, R, S, x, big, q⟩ := h
  have hu := hu_of hr
  have cl := T.cl_Run
  have n1 := T.n_r "results" (by simp)
  have n2 := T.n_r "looks" (by simp)
  have n3 := T.n_r "work" (by simp)
  have n4 := T.n_r "made" (by simp)
  have n7 := T.n_r "worths" (by simp)
  have hob := R.ob
  have hhr := R.hr
  have hhk := R.hk
  have hhl := R.hl
  have hhm := R.hm
  have hhw := R.hw
  have e1 : (runF A' l .non).lookup ("results" : Str) = some (.ref A'.lr) := rfl
  have e2 : (runF A' l .non).lookup ("looks" : Str) = some (.ref A'.ll) := rfl
  have e3 : (runF A' l .non).lookup ("work" : Str) = some (.ref A'.lw) := rfl
  have e4 : (runF A' l .non).lookup ("made" : Str) = some (.ref A'.lm) := rfl
  have e5 : (runF A' l .non).lookup ("worths" : Str) = some (.ref A'.dw) := rfl
  have e6 : (runF A' l .non).lookup ("holder" : Str) = none := rfl
  have hlk := R.rk.length
  have hlr := R.rr.length
  have hll := R.rl.length
  obtain ⟨b1, b2, b3, b4, b5, b6, b7⟩ := id big
  have c1 : rs.length < 1000000 := by rw [← hlr]; exact Nat.lt_of_le_of_lt b2 (by decide)
  have c2 : ws.length + 10 < 1000000 := by rw [← hlk]; exact Nat.lt_of_le_of_lt (Nat.add_le_add_right b1 10) (by decide)
  have c3 : ls.length < 1000000 := by rw [← hll]; exact Nat.lt_of_le_of_lt b6 (by decide)
  have c4 : (L.md.map nV).length < 1000000 := by rw [List.length_map]; exact Nat.lt_of_le_of_lt b7 (by decide)
  refine ⟨_, (pss_one (ps_if (pt_cmpR op_eq (pe_ix (w_ixT (K := K) rfl) (pv 1) pe_int (fun _ _ => rfl)) pe_str (nomark _))
        (pss_one (ps_expr (pe_bm PySem.F.plainAttrs_list PySem.F.slot_list_append PySem.F.type_list_append mt_append (w_fld (K := K) rfl (pv 0) rfl) (pa_cons (pe_ix (w_ixT (K := K) rfl) (pv 1) pe_int (fun _ _ => rfl)) pa_nil))))
        (pss_one (ps_if (pt_cmpR op_eq (pe_ix (w_ixT (K := K) rfl) (pv 1) pe_int (fun _ _ => rfl)) pe_str (nomark _))
          (pss_cons (ps_set (i := 3) sc_Run_do.nd rfl (Or.inl rfl) (pe_tup (pa_cons (pe_meth (pv 0) T.cl_Run me_Run_holder G_Run_holder (hr.mono (by first | decide | omega)) b_Run_holder .nil pass0 (pa_cons (pv 2) (pa_cons (pe_ix (w_ixT (K := K) rfl) (pv 1) pe_int (fun _ _ => rfl)) pa_nil))) (pa_cons (pe_ix (w_ixT (K := K) rfl) (pv 1) pe_int (fun _ _ => rfl)) pa_nil))))
          (pss_cons (ps_expr (pe_bm PySem.F.plainAttrs_list PySem.F.slot_list_append PySem.F.type_list_append mt_append (w_fld (K := K) rfl (pv 0) rfl) (pa_cons (pe_tup (pa_cons (pv 2) (pa_cons (pv 3) pa_nil))) pa_nil)))
          (pss_one (ps_expr (pe_bm PySem.F.plainAttrs_list PySem.F.slot_list_append PySem.F.type_list_append mt_append (w_fld (K := K) rfl (pv 0) rfl) (pa_cons (pe_dget hu (w_fld (K := K) rfl (pv 0) rfl) (pv 3) (fun _ _ => rfl)) pa_nil))))))
          (pss_one (ps_if (pt_cmpR op_eq (pe_ix (w_ixT (K := K) rfl) (pv 1) pe_int (fun _ _ => rfl)) pe_str (nomark _))
            (pss_cons (ps_expr (pe_bm PySem.F.plainAttrs_list PySem.F.slot_list_append PySem.F.type_list_append mt_append (w_fld (K := K) rfl (pv 0) rfl) (pa_cons (pe_ix (w_ixT (K := K) rfl) (pv 1) pe_int (fun _ _ => rfl)) pa_nil)))
            (pss_one (ps_expr (pe_bm PySem.F.plainAttrs_list PySem.F.slot_list_append PySem.F.type_list_append mt_append (w_fld (K := K) rfl (pv 0) rfl) (pa_cons (pe_make M_Function G_Function (hr.mono (by first | decide | omega)) (by rfl) T.m_Function b_Function .nil pass0 (pa_cons (pe_ix (w_ixT (K := K) rfl) (pv 1) pe_int (fun _ _ => rfl)) (pa_cons (pe_ix (w_ixT (K := K) rfl) (pv 1) pe_int (fun _ _ => rfl)) (pa_cons (pv 2) pa_nil)))) pa_nil)))))
            (pss_one (ps_if (pt_cmpR op_eq (pe_ix (w_ixT (K := K) rfl) (pv 1) pe_int (fun _ _ => rfl)) pe_str (nomark _))
              (pss_one (ps_expr (pe_bm PySem.F.plainAttrs_list PySem.F.slot_list_extend PySem.F.type_list_extend mt_extend (w_fld (K := K) rfl (pv 0) rfl) (pa_cons (pe_lst (pa_cons (pe_tup (pa_cons pe_str (pa_cons (pe_ix (w_ixT (K := K) rfl) (pv 1) pe_int (fun _ _ => rfl)) (pa_cons (pe_ix (w_ixT (K := K) rfl) (pv 1) pe_int (fun _ _ => rfl)) (pa_cons (pv 2) pa_nil))))) (pa_cons (pe_tup (pa_cons pe_str (pa_cons (pe_ix (w_ixT (K := K) rfl) (pv 1) pe_int (fun _ _ => rfl)) (pa_cons (pv 2) pa_nil)))) pa_nil))) pa_nil))))
              (pss_one (ps_if (pt_cmpR op_eq (pe_ix (w_ixT (K := K) rfl) (pv 1) pe_int (fun _ _ => rfl)) pe_str (nomark _))
                (pss_one (ps_expr (pe_bm PySem.F.plainAttrs_list PySem.F.slot_list_extend PySem.F.type_list_extend mt_extend (w_fld (K := K) rfl (pv 0) rfl) (pa_cons (pe_lst (pa_cons (pe_tup (pa_cons pe_str (pa_cons (pe_ix (w_ixT (K := K) rfl) (pv 1) pe_int (fun _ _ => rfl)) (pa_cons (pe_ix (w_ixT (K := K) rfl) (pv 1) pe_int (fun _ _ => rfl)) (pa_cons (pv 2) pa_nil))))) (pa_cons (pe_tup (pa_cons pe_str (pa_cons (pe_ix (w_ixT (K := K) rfl) (pv 1) pe_int (fun _ _ => rfl)) (pa_cons (pv 2) pa_nil)))) pa_nil))) pa_nil))))
                (pss_one (ps_expr (pe_bm PySem.F.plainAttrs_list PySem.F.slot_list_extend PySem.F.type_list_extend mt_extend (w_fld (K := K) rfl (pv 0) rfl) (pa_cons (pe_lst (pa_cons (pe_tup (pa_cons (pe_ix (w_ixT (K := K) rfl) (pv 1) pe_int (fun _ _ => rfl)) pa_nil)) (pa_cons (pe_tup (pa_cons pe_str (pa_cons (pe_ix (w_ixT (K := K) rfl) (pv 1) pe_int (fun _ _ => rfl)) (pa_cons (pv 2) pa_nil)))) (pa_cons (pe_tup (pa_cons pe_str (pa_cons (pe_ix (w_ixT (K := K) rfl) (pv 1) pe_int (fun _ _ => rfl)) (pa_cons (pv 2) pa_nil)))) pa_nil)))) pa_nil)))))))))))))), ?_⟩
  refine at_st (σ' := [some (.ref A'.p), some v, some (nV h0), none]) rfl ?_
  cases x with
  | @num _ _ _ _ m _ =>
    obtain ⟨t, rfl, ht⟩ := hre
    walk_at "gi"
    refine rd_app hhr c1 fun H1 k1 h1 => ?_
    exact q _ _ _ _ _ H1 (R.push (x := .int m) rfl k1 h1) rfl (k1.mono RA.s_lr)
  | @name _ _ _ _ s0 _ a w0 r g =>
    obtain ⟨t, rfl, ht⟩ := hre
    walk_at "gi"
    refine rd_holder R S r ?_
    walk_at "gi"
    rename_i pb H1 nb k1 h1 pl H2 np k2 h2
    have R2 := R.keep0 (k1.trans k2)
    refine rd_app R2.hl c3 fun H3 k3 h3 => ?_
    have R3 := R2.pushL (x := (h0, a, s0)) ⟨pl, pb, rfl, h2, k2.tup _ _ h1⟩ k3 h3
    have hob3 := R3.ob
    obtain ⟨vv, hv, rv⟩ := R3.rw_.get g
    have hb3 := k3.tup _ _ (k2.tup _ _ h1)
    have hr3 := R3.hr
    have k13 := ((k1.trans k2).up (N := A'.M)).trans (k3.mono RA.s_ll)
    clear k1 k2 k3
    walk_at "gi"
    refine rd_getT (ks := kW (a, s0)) R3.hw hb3 hv ?_
    walk_at "gi"
    refine rd_app R3.hr c1 fun H4 k4 h4 => ?_
    exact q _ _ _ _ _ H4 (R3.push rv k4 h4) rfl (k13.trans (k4.mono RA.s_lr))
  | @fn _ _ _ _ s0 b _ =>
    obtain ⟨t, y, rfl, ht, ry⟩ := hre
    walk_at "gi"
    refine rd_app hhm c4 fun H1 k1 h1 => ?_
    have R1 := R.pushM k1 h1
    have hob1 := R1.ob
    have hhr1 := R1.hr
    walk_at "gi"
    refine rd_mkx fun x dx H2 nx nd ne k2 h2 => ?_
    refine ⟨x, dx, s0, h0, y, rfl, h2, fun H3 h3 k3 => ⟨rfl, ?_⟩⟩
    have k23 : Kp [] H1 H3 := k2.chg nx k3
    have R3 := R1.keep0 k23
    walk_at "gi"
    refine rd_app R3.hr c1 fun H4 k4 h4 => ?_
    exact q _ _ _ _ _ H4 (R3.push (x := .clo s0 b h0) ⟨x, dx, y, rfl, h3, (ry.mono k1.tup).mono k23.tup⟩ k4 h4) rfl (((k1.mono RA.s_lm).trans k23.up).trans (k4.mono RA.s_lr))
  | @lt _ _ _ _ s0 a b _ =>
    obtain ⟨t, y, z, rfl, ht, ry, rz⟩ := hre
    walk_at "gi"
    rename_i pb H1 nb k1 h1 pr H2 nr k2 h2 pl H3 nl k3 h3
    have k13 := (k1.trans k2).trans k3
    have R3 := R.keep0 k13
    refine rd_ext R3.hk h3 (by show ws.length + 2 < _; omega) fun H4 k4 h4 => ?_
    exact q _ _ _ _ _ H4 (R3.pushK2 (x := .bind s0 b h0) (y := .run a h0) ⟨pb, z, rfl, k3.tup _ _ (k2.tup _ _ h1), rz.mono k13.tup⟩ ⟨pr, y, rfl, k3.tup _ _ h2, ry.mono k13.tup⟩ k4 h4) rfl (k13.up.trans (k4.mono RA.s_lw))
  | @ite0 _ _ _ _ c a b _ =>
    obtain ⟨t, x, y, z, rfl, ht, rx, ry, rz⟩ := hre
    walk_at "gi"
    rename_i pb H1 nb k1 h1 pr H2 nr k2 h2 pl H3 nl k3 h3
    have k13 := (k1.trans k2).trans k3
    have R3 := R.keep0 k13
    refine rd_ext R3.hk h3 (by show ws.length + 2 < _; omega) fun H4 k4 h4 => ?_
    exact q _ _ _ _ _ H4 (R3.pushK2 (x := .ite a b h0) (y := .run c h0) ⟨pb, y, z, rfl, k3.tup _ _ (k2.tup _ _ h1), ry.mono k13.tup, rz.mono k13.tup⟩ ⟨pr, x, rfl, k3.tup _ _ h2, rx.mono k13.tup⟩ k4 h4) rfl (k13.up.trans (k4.mono RA.s_lw))
  | @plus0 _ _ _ _ a b _ =>
    obtain ⟨t, y, z, rfl, ht, ry, rz⟩ := hre
    walk_at "gi"
    rename_i po H0 no k0 h00 pb H1 nb k1 h1 pr H2 nr k2 h2 pl H3 nl k3 h3
    have k13 := ((k0.trans k1).trans k2).trans k3
    have R3 := R.keep0 k13
    refine rd_ext R3.hk h3 (by show ws.length + 3 < _; omega) fun H4 k4 h4 => ?_
    exact q _ _ _ _ _ H4 (R3.pushK3 (x := .plus) (y := .run b h0) (z := .run a h0) ⟨po, rfl, k3.tup _ _ (k2.tup _ _ (k1.tup _ _ h00))⟩ ⟨pb, z, rfl, k3.tup _ _ (k2.tup _ _ h1), rz.mono k13.tup⟩ ⟨pr, y, rfl, k3.tup _ _ h2, ry.mono k13.tup⟩ k4 h4) rfl (k13.up.trans (k4.mono RA.s_lw))
  | @call0 _ _ _ _ a b _ =>
    obtain ⟨t, y, z, rfl, ht, ry, rz⟩ := hre
    walk_at "gi"
    rename_i po H0 no k0 h00 pb H1 nb k1 h1 pr H2 nr k2 h2 pl H3 nl k3 h3
    have k13 := ((k0.trans k1).trans k2).trans k3
    have R3 := R.keep0 k13
    refine rd_ext R3.hk h3 (by show ws.length + 3 < _; omega) fun H4 k4 h4 => ?_
    exact q _ _ _ _ _ H4 (R3.pushK3 (x := .call) (y := .run b h0) (z := .run a h0) ⟨po, rfl, k3.tup _ _ (k2.tup _ _ (k1.tup _ _ h00))⟩ ⟨pb, z, rfl, k3.tup _ _ (k2.tup _ _ h1), rz.mono k13.tup⟩ ⟨pr, y, rfl, k3.tup _ _ h2, ry.mono k13.tup⟩ k4 h4) rfl (k13.up.trans (k4.mono RA.s_lw))
end
end EW

end
section
open PySem L2 EW
local macro_rules | `(tactic| walk_at "ne") => `(tactic| first
  | assumption
  | exact Ne.symm (by assumption)
  | ((with_reducible refine' EW.RowAt.newne ?n ?h); (case n => assumption); (case h => walk_at "hp"))
  | ((with_reducible refine' Ne.symm (EW.RowAt.newne ?n ?h)); (case n => assumption); (case h => walk_at "hp"))
  | ((with_reducible refine' EW.BoxAt.newne ?n ?h); (case n => assumption); (case h => walk_at "hp"))
  | ((with_reducible refine' Ne.symm (EW.BoxAt.newne ?n ?h)); (case n => assumption); (case h => walk_at "hp")))
local macro_rules | `(tactic| walk_at "ns") => `(tactic| first
  | assumption
  | exact EW.RowAt.ne (by assumption)
  | ((with_reducible refine' EW.RowAt.notin ?n ?h); (case n => assumption); (case h => walk_at "hp")))
local macro_rules | `(tactic| walk_at "ni") => `(tactic| first
  | with_reducible exact EW.ne_mem0
  | with_reducible exact EW.dis0
  | ((with_reducible refine' EW.ne_mem1 ?h); (case h => walk_at "ne"))
  | ((with_reducible refine' EW.ne_mem2 ?h ?g); (case h => walk_at "ne"); (case g => walk_at "ne"))
  | ((with_reducible refine' EW.dis1 ?h); (case h => walk_at "ns"))
  | ((with_reducible refine' EW.dis2 ?h ?g); (case h => walk_at "ns"); (case g => walk_at "ns")))
local macro_rules | `(tactic| walk_at "hp") => `(tactic| first
  | assumption
  | ((with_reducible refine' EW.RE.mono (EW.Kp.tup ?k) ?h); (case k => assumption); (case h => walk_at "hp"))
  | ((with_reducible refine' EW.Kp.tup ?k _ _ ?h); (case k => assumption); (case h => walk_at "hp"))
  | ((with_reducible refine' EW.kp_tup ?k ?h); (case k => assumption); (case h => walk_at "hp"))
  | ((with_reducible refine' EW.Kp.keep ?k _ _ ?h ?n); (case k => assumption); (case h => walk_at "hp"); (case n => walk_at "ni"))
  | ((with_reducible refine' EW.Kp.seqL ?k ?h ?n); (case k => assumption); (case h => walk_at "hp"); (case n => walk_at "ni"))
  | ((with_reducible refine' EW.RowAt.keep ?k ?h ?n1 ?n2); (case k => assumption); (case h => walk_at "hp"); (case n1 => walk_at "ni"); (case n2 => walk_at "ni"))
  | ((with_reducible refine' EW.ScAt.keep ?k ?h ?n); (case k => assumption); (case h => walk_at "hp"); (case n => walk_at "ni"))
  | ((with_reducible refine' EW.BoxAt.keep ?k ?h ?n); (case k => assumption); (case h => walk_at "hp"); (case n => walk_at "ni"))
  | ((with_reducible refine' L2.SqL.of ?h); (case h => walk_at "hp"))
  | ((with_reducible refine' L2.SqT.of ?h); (case h => walk_at "hp")))
local macro_rules | `(tactic| walk_at "sb") => `(tactic| first
  | exact EW.sub0
  | exact EW.sub_refl
  | exact EW.sub_l
  | exact EW.sub_r)
local macro_rules | `(tactic| walk_at "kp") => `(tactic| first
  | exact EW.Kp.refl
  | assumption
  | ((with_reducible refine' EW.Kp.trans ?h (EW.Kp.mono ?k ?s)); (case k => assumption); (case s => walk_at "sb"); (case h => walk_at "kp")))
local macro_rules | `(tactic| walk_at "st") => `(tactic| first
  | with_reducible refine rd_seq ?_
  | with_reducible refine rd_next ?_
  | with_reducible refine rd_asg ?_
  | with_reducible refine rd_name ?_
  | with_reducible refine rd_ret ?_
  | with_reducible refine rd_drop ?_
  | ((with_reducible refine' rd_var ?e ?_); (case e => first | with_reducible assumption | exact rfl | assumption))
  | with_reducible refine rd_c ?_
  | with_reducible refine rd_op ?_
  | with_reducible refine rd_I0 ?_
  | with_reducible refine rd_test ?_
  | with_reducible refine rd_tB ?_
  | with_reducible refine rd_not ?_
  | with_reducible refine rd_and ?_
  | with_reducible refine rd_or ?_
  | with_reducible refine rd_ifE ?_
  | with_reducible refine rd_notV ?_
  | with_reducible refine rd_andV ?_
  | with_reducible refine rd_orV ?_
  | with_reducible refine rd_cons ?_
  | with_reducible refine EW.rd_par ?_
  | with_reducible refine EW.rd_par2 ?_
  | with_reducible refine EW.rd_parT ?_
  | with_reducible refine EW.rd_par3 ?_
  | with_reducible refine rd_nil ?_
  | with_reducible refine rd_cb ?_
  | with_reducible refine rd_call ?_
  | with_reducible refine rd_meth ?_
  | with_reducible refine rd_sub ?_
  | with_reducible refine rd_fl ?_
  | with_reducible refine rd_tup ?_
  | with_reducible refine rd_lst ?_
  | with_reducible refine rd_sl ?_
  | with_reducible refine rd_part ?_
  | with_reducible refine rd_partI ?_
  | with_reducible refine rd_nopart ?_
  | with_reducible refine rd_yes ?_
  | with_reducible refine rd_dnewK ?_
  | with_reducible refine rd_dnewT ?_
  | ((with_reducible refine' rd_isT ?h ?_); (case h => walk_at "hp"))
  | with_reducible refine rd_isI ?_
  | with_reducible refine rd_isII ?_
  | with_reducible refine rd_isIB ?_
  | ((with_reducible refine' rd_sum ?h ?_); (case h => walk_at "hp"))
  | ((with_reducible refine' rd_tail ?h ?_); (case h => walk_at "hp"))
  | ((with_reducible refine rd_newO ?_); intro _ _ _ _ _)
  | ((with_reducible refine' rd_lenS ?l ?_); (case l => exact rfl))
  | ((with_reducible refine' rd_ixS ?l ?e ?_); (case l => exact rfl); (case e => first | assumption | with_reducible exact EW.at_head | exact rfl))
  | with_reducible refine EW.ite_dT (by decide +kernel) ?_
  | with_reducible refine EW.ite_dF (by decide +kernel) ?_
  | with_reducible refine EW.ite_nT (by decide +kernel) ?_
  | with_reducible refine EW.ite_nF (by decide +kernel) ?_
  | with_reducible refine EW.iteNF ?_
  | with_reducible refine EW.iteNT ?_
  | with_reducible refine EW.iteEC ?_
  | with_reducible refine EW.iteEN ?_
  | with_reducible refine EW.iteNC ?_
  | with_reducible refine EW.iteNN ?_
  | with_reducible refine EW.rd_kget (by assumption) ?_
  | with_reducible refine EW.rd_kgx (by assumption) _ ?_
  | with_reducible refine EW.rd_ixD (by assumption) _ ?_
  | with_reducible refine EW.rd_chain ?_
  | with_reducible refine L2.iteT ?_
  | with_reducible refine L2.iteF ?_
  | with_reducible refine rd_bm ?_
  | with_reducible refine rd_bm0 ?_
  | with_reducible refine rd_sfld ?_
  | with_reducible refine rd_make ?_
  | ((with_reducible refine' rd_bmL ?s ?_); (case s => walk_at "hp"))
  | ((with_reducible refine' rd_bm0L ?s ?_); (case s => walk_at "hp"))
  | ((with_reducible refine' rd_mex ?s ?l ?_); (case s => walk_at "hp"); (case l => assumption))
  | with_reducible refine rd_lc ?_
  | with_reducible refine rd_for ?_
  | with_reducible refine rd_il ?_
  | with_reducible refine rd_it ?_
  | with_reducible refine rd_ir ?_
  | with_reducible refine rd_dput ?_
  | with_reducible refine rd_dget ?_
  | ((with_reducible refine' rd_ilx ?s ?_); (case s => walk_at "hp"))
  | ((with_reducible refine' rd_itx ?s ?_); (case s => walk_at "hp"))
  | ((with_reducible refine' rd_getK ?s ?e ?_); (case s => walk_at "hp"); (case e => assumption))
  | ((with_reducible refine rd_newT rfl ?_); intro _ _ _ _ _)
  | ((with_reducible refine rd_newL rfl ?_); intro _ _ _ _ _)
  | ((with_reducible refine' rd_taken ?a ?b ?c ?_); (case a => walk_at "hp"); (case b => first | omega | decide); (case c => first | omega | decide); intro _ _ _ _ _)
  | ((with_reducible refine' rd_neE ?a ?b ?_); (case a => walk_at "hp"); (case b => walk_at "hp"))
  | ((with_reducible refine' rd_eqE ?a ?b ?_); (case a => walk_at "hp"); (case b => walk_at "hp"))
  | with_reducible refine rd_eq rfl ?_
  | with_reducible refine rd_ne rfl ?_
  | with_reducible refine rd_bl ?_
  | ((with_reducible refine rd_I ?c ?_); (case c => first | assumption | omega | decide | (exact Or.inl ⟨by omega, by omega⟩) | (exact ⟨by omega, by omega⟩) | (exact ⟨by decide, by decide, by decide⟩)))
  | refine Or.inl ⟨_, rfl, ?_⟩
  | refine Or.inr ⟨_, rfl, ?_⟩
  | ((with_reducible refine' rd_lenL ?s ?_); (case s => walk_at "hp"))
  | ((with_reducible refine' rd_lenT ?s ?_); (case s => walk_at "hp"))
  | ((with_reducible refine' rd_ixL ?s ?e ?_); (case s => walk_at "hp"); (case e => first | assumption | with_reducible exact EW.at_head | exact rfl))
  | ((with_reducible refine' rd_ixT ?s ?e ?_); (case s => walk_at "hp"); (case e => first | assumption | with_reducible exact EW.at_head | exact rfl))
  | ((with_reducible refine' rd_flx ?s ?c ?n ?l ?_); (case s => walk_at "hp"); (case c => assumption); (case n => assumption); (case l => assumption)))
local macro_rules | `(tactic| walk_at "go") => `(tactic| repeat (walk_at "st"))
local macro_rules | `(tactic| walk_at "gi") => `(tactic| repeat (first | with_reducible refine rd_if ?_ | walk_at "st"))
namespace EW
open PySem L2
def aStep : Hp → Tk → List V → Prop := fun H tk vs => ∃ v, vs = [v] ∧ RT H tk v
section
variable {P : Program} {w : World} {K : PySem.W.Frag} {mg : Str → Option Value} {base : Heap} {a_SHAPES C_Sites C_Run C_Function : Addr}
theorem ok_Run_step {f : Addr} {fd : FuncData} (A : AtM K C_Run "step" "Run.step" s_Run_step ["self", "task"] f fd) (T : TxtR K w mg a_SHAPES C_Sites C_Run C_Function)
    (c_Run_do : HasM P w K mg base C_Run "do" ["self", "e", "here"] 3 (spOne C_Run C_Function C_Sites aDo)) (c_Run_plus : HasM P w K mg base C_Run "plus" ["self"] 1 (spOne C_Run C_Function C_Sites aPlus))
    (c_Run_choose : HasM P w K mg base C_Run "choose" ["self", "task"] 1 (spOne C_Run C_Function C_Sites aChoose)) (c_Run_call : HasM P w K mg base C_Run "call" ["self"] 1 (spOne C_Run C_Function C_Sites aCall)) :
    HasM P w K mg base C_Run "step" ["self", "task"] 4 (spOne C_Run C_Function C_Sites aStep) := by
  obtain ⟨f_Run_do, fd_Run_do, G_Run_do, me_Run_do, b_Run_do⟩ := c_Run_do
  obtain ⟨f_Run_plus, fd_Run_plus, G_Run_plus, me_Run_plus, b_Run_plus⟩ := c_Run_plus
  obtain ⟨f_Run_choose, fd_Run_choose, G_Run_choose, me_Run_choose, b_Run_choose⟩ := c_Run_choose
  obtain ⟨f_Run_call, fd_Run_call, G_Run_call, me_Run_call, b_Run_call⟩ := c_Run_call
  refine ⟨f, fd, A.F.ok sc_Run_step (fun vs H Q EE h => ?_) (fun cdv A outer s H vs Q EE hr h => ?_), A.m, A.b⟩
  · obtain ⟨_, _, _, _, _, _, _, _, _, _, _, _, _, _, _, _, rfl, ⟨_, rfl, _⟩, _⟩ := h
    rfl
  obtain ⟨A', tk, l, L, wk, rs0, N, kvs, ls, ws, rs, dxs, fl, lo, os, _, rfl, ⟨v, rfl, ht⟩, R, S, x, big, q⟩ := h
  have hu := hu_of hr
  have cl := T.cl_Run
  have n1 := T.n_r "results" (by simp)
  have n3 := T.n_r "work" (by simp)
  have n7 := T.n_r "worths" (by simp)
  have hob := R.ob
  have hhr := R.hr
  have hhw := R.hw
  have e1 : (runF A' l .non).lookup ("results" : Str) = some (.ref A'.lr) := rfl
  have e3 : (runF A' l .non).lookup ("work" : Str) = some (.ref A'.lw) := rfl
  have e5 : (runF A' l .non).lookup ("worths" : Str) = some (.ref A'.dw) := rfl
  have m1 : (runF A' l .non).lookup ("do" : Str) = none := rfl
  have m2 : (runF A' l .non).lookup ("plus" : Str) = none := rfl
  have m3 : (runF A' l .non).lookup ("choose" : Str) = none := rfl
  have m4 : (runF A' l .non).lookup ("call" : Str) = none := rfl
  have hlk := R.rk.length
  obtain ⟨b1, b2, b3, b4, b5, b6, b7⟩ := id big
  refine ⟨_, (pss_one (ps_if (pt_cmpR op_eq (pe_ix (w_ixT (K := K) rfl) (pv 1) pe_int (fun _ _ => rfl)) pe_str (nomark _))
        (pss_one (ps_expr (pe_meth (pv 0) T.cl_Run me_Run_do G_Run_do (hr.mono (by first | decide | omega)) b_Run_do .nil pass0 (pa_cons (pe_ix (w_ixT (K := K) rfl) (pv 1) pe_int (fun _ _ => rfl)) (pa_cons (pe_ix (w_ixT (K := K) rfl) (pv 1) pe_int (fun _ _ => rfl)) pa_nil)))))
        (pss_one (ps_if (pt_cmpR op_eq (pe_ix (w_ixT (K := K) rfl) (pv 1) pe_int (fun _ _ => rfl)) pe_str (nomark _))
          (pss_one (ps_expr (pe_meth0 (pv 0) T.cl_Run me_Run_plus G_Run_plus (hr.mono (by first | decide | omega)) b_Run_plus .nil pass0)))
          (pss_one (ps_if (pt_cmpR op_eq (pe_ix (w_ixT (K := K) rfl) (pv 1) pe_int (fun _ _ => rfl)) pe_str (nomark _))
            (pss_cons (ps_dput hu (w_fld (K := K) rfl (pv 0) rfl) (pe_tup (pa_cons (pe_ix (w_ixT (K := K) rfl) (pv 1) pe_int (fun _ _ => rfl)) (pa_cons (pe_ix (w_ixT (K := K) rfl) (pv 1) pe_int (fun _ _ => rfl)) pa_nil))) (pe_bm0 PySem.F.plainAttrs_list PySem.F.slot_list_pop PySem.F.type_list_pop mt_pop (w_fld (K := K) rfl (pv 0) rfl)) rfl)
            (pss_one (ps_expr (pe_bm PySem.F.plainAttrs_list PySem.F.slot_list_append PySem.F.type_list_append mt_append (w_fld (K := K) rfl (pv 0) rfl) (pa_cons (pe_tup (pa_cons pe_str (pa_cons (pe_ix (w_ixT (K := K) rfl) (pv 1) pe_int (fun _ _ => rfl)) (pa_cons (pe_ix (w_ixT (K := K) rfl) (pv 1) pe_int (fun _ _ => rfl)) pa_nil)))) pa_nil)))))
            (pss_one (ps_if (pt_cmpR op_eq (pe_ix (w_ixT (K := K) rfl) (pv 1) pe_int (fun _ _ => rfl)) pe_str (nomark _))
              (pss_one (ps_expr (pe_meth (pv 0) T.cl_Run me_Run_choose G_Run_choose (hr.mono (by first | decide | omega)) b_Run_choose .nil pass0 (pa_cons (pv 1) pa_nil))))
              (pss_one (ps_expr (pe_meth0 (pv 0) T.cl_Run me_Run_call G_Run_call (hr.mono (by first | decide | omega)) b_Run_call .nil pass0))))))))))), ?_⟩
  refine at_st (σ' := [some (.ref A'.p), some v]) rfl ?_
  cases tk with
  | run e h0 =>
    obtain ⟨t, y, rfl, ht, ry⟩ := ht
    walk_at "gi"
    exact ⟨A', _, l, L, wk, rs0, N, kvs, ls, ws, rs, dxs, fl, lo, os, _, rfl, ⟨e, h0, y, rfl, rfl, ry⟩, R, S, x, big, q⟩
  | plus =>
    obtain ⟨t, rfl, ht⟩ := ht
    walk_at "gi"
    exact ⟨A', _, l, L, wk, rs0, N, kvs, ls, ws, rs, dxs, fl, lo, os, _, rfl, ⟨rfl, rfl⟩, R, S, x, big, q⟩
  | bind s0 e h0 =>
    obtain ⟨t, y, rfl, ht, ry⟩ := ht
    cases x with
    | @bind _ _ _ rs1 _ _ _ w0 fr =>
      obtain ⟨ra, vj, rfl, wj, P1⟩ := R.pop
      walk_at "gi"
      refine rd_pop hhr fun H1 k1 h1 => ?_
      obtain ⟨R1, w1⟩ := P1 H1 k1 h1
      have hob1 := R1.ob
      have ry1 := ry.mono k1.tup
      have ht1 := k1.tup _ _ ht
      have k11 := k1.mono (RA.s_lr (A := A'))
      clear k1
      walk_at "gi"
      rename_i pb H2 nb k2 h2
      have R2 := R1.keep0 k2
      have hlw := R2.rw_.length
      refine rd_putT (ks := kW (h0, s0)) R2.hw h2 (by rw [← hlw]; exact Nat.lt_of_le_of_lt b5 (by decide)) fun H3 k3 h3 => ?_
      have R3 := R2.put fr (w1.keep k2 .nil) k3 h3
      have hob3 := R3.ob
      have hk3 := R3.hk
      have ry3 := (ry1.mono k2.tup).mono k3.tup
      have ht3 := k3.tup _ _ (k2.tup _ _ ht1)
      have k13 := (k11.trans k2.up).trans (k3.mono RA.s_dw)
      clear k11 k2 k3
      walk_at "gi"
      rename_i pt H4 np k4 h4
      refine rd_app (k4.keep _ _ hk3 ne_mem0) (by rw [← hlk]; exact Nat.lt_of_le_of_lt b1 (by decide)) fun H5 k5 h5 => ?_
      exact q _ _ _ _ _ H5 ((R3.keep0 k4).pushK (x := .run e h0) ⟨pt, y, rfl, h4, ry3.mono k4.tup⟩ k5 h5) rfl ((k13.trans k4.up).trans (k5.mono RA.s_lw))
  | ite a b h0 =>
    obtain ⟨t, y, z, rfl, ht, ry, rz⟩ := ht
    walk_at "gi"
    exact ⟨A', _, l, L, wk, rs0, N, kvs, ls, ws, rs, dxs, fl, lo, os, _, rfl, ⟨a, b, h0, .ref t, rfl, rfl, ⟨t, y, z, rfl, ht, ry, rz⟩⟩, R, S, x, big, q⟩
  | call =>
    obtain ⟨t, rfl, ht⟩ := ht
    walk_at "gi"
    exact ⟨A', _, l, L, wk, rs0, N, kvs, ls, ws, rs, dxs, fl, lo, os, _, rfl, ⟨rfl, rfl⟩, R, S, x, big, q⟩
end
end EW

end
section
open PySem L2 EW
local macro_rules | `(tactic| walk_at "ne") => `(tactic| first
  | assumption
  | exact Ne.symm (by assumption)
  | ((with_reducible refine' EW.RowAt.newne ?n ?h); (case n => assumption); (case h => walk_at "hp"))
  | ((with_reducible refine' Ne.symm (EW.RowAt.newne ?n ?h)); (case n => assumption); (case h => walk_at "hp"))
  | ((with_reducible refine' EW.BoxAt.newne ?n ?h); (case n => assumption); (case h => walk_at "hp"))
  | ((with_reducible refine' Ne.symm (EW.BoxAt.newne ?n ?h)); (case n => assumption); (case h => walk_at "hp")))
local macro_rules | `(tactic| walk_at "ns") => `(tactic| first
  | assumption
  | exact EW.RowAt.ne (by assumption)
  | ((with_reducible refine' EW.RowAt.notin ?n ?h); (case n => assumption); (case h => walk_at "hp")))
local macro_rules | `(tactic| walk_at "ni") => `(tactic| first
  | with_reducible exact EW.ne_mem0
  | with_reducible exact EW.dis0
  | ((with_reducible refine' EW.ne_mem1 ?h); (case h => walk_at "ne"))
  | ((with_reducible refine' EW.ne_mem2 ?h ?g); (case h => walk_at "ne"); (case g => walk_at "ne"))
  | ((with_reducible refine' EW.dis1 ?h); (case h => walk_at "ns"))
  | ((with_reducible refine' EW.dis2 ?h ?g); (case h => walk_at "ns"); (case g => walk_at "ns")))
local macro_rules | `(tactic| walk_at "hp") => `(tactic| first
  | assumption
  | ((with_reducible refine' EW.RE.mono (EW.Kp.tup ?k) ?h); (case k => assumption); (case h => walk_at "hp"))
  | ((with_reducible refine' EW.Kp.tup ?k _ _ ?h); (case k => assumption); (case h => walk_at "hp"))
  | ((with_reducible refine' EW.kp_tup ?k ?h); (case k => assumption); (case h => walk_at "hp"))
  | ((with_reducible refine' EW.Kp.keep ?k _ _ ?h ?n); (case k => assumption); (case h => walk_at "hp"); (case n => walk_at "ni"))
  | ((with_reducible refine' EW.Kp.seqL ?k ?h ?n); (case k => assumption); (case h => walk_at "hp"); (case n => walk_at "ni"))
  | ((with_reducible refine' EW.RowAt.keep ?k ?h ?n1 ?n2); (case k => assumption); (case h => walk_at "hp"); (case n1 => walk_at "ni"); (case n2 => walk_at "ni"))
  | ((with_reducible refine' EW.ScAt.keep ?k ?h ?n); (case k => assumption); (case h => walk_at "hp"); (case n => walk_at "ni"))
  | ((with_reducible refine' EW.BoxAt.keep ?k ?h ?n); (case k => assumption); (case h => walk_at "hp"); (case n => walk_at "ni"))
  | ((with_reducible refine' L2.SqL.of ?h); (case h => walk_at "hp"))
  | ((with_reducible refine' L2.SqT.of ?h); (case h => walk_at "hp")))
local macro_rules | `(tactic| walk_at "sb") => `(tactic| first
  | exact EW.sub0
  | exact EW.sub_refl
  | exact EW.sub_l
  | exact EW.sub_r)
local macro_rules | `(tactic| walk_at "kp") => `(tactic| first
  | exact EW.Kp.refl
  | assumption
  | ((with_reducible refine' EW.Kp.trans ?h (EW.Kp.mono ?k ?s)); (case k => assumption); (case s => walk_at "sb"); (case h => walk_at "kp")))
local macro_rules | `(tactic| walk_at "st") => `(tactic| first
  | with_reducible refine rd_seq ?_
  | with_reducible refine rd_next ?_
  | with_reducible refine rd_asg ?_
  | with_reducible refine rd_name ?_
  | with_reducible refine rd_ret ?_
  | with_reducible refine rd_drop ?_
  | ((with_reducible refine' rd_var ?e ?_); (case e => first | with_reducible assumption | exact rfl | assumption))
  | with_reducible refine rd_c ?_
  | with_reducible refine rd_op ?_
  | with_reducible refine rd_I0 ?_
  | with_reducible refine rd_test ?_
  | with_reducible refine rd_tB ?_
  | with_reducible refine rd_not ?_
  | with_reducible refine rd_and ?_
  | with_reducible refine rd_or ?_
  | with_reducible refine rd_ifE ?_
  | with_reducible refine rd_notV ?_
  | with_reducible refine rd_andV ?_
  | with_reducible refine rd_orV ?_
  | with_reducible refine rd_cons ?_
  | with_reducible refine EW.rd_par ?_
  | with_reducible refine EW.rd_par2 ?_
  | with_reducible refine EW.rd_parT ?_
  | with_reducible refine EW.rd_par3 ?_
  | with_reducible refine rd_nil ?_
  | with_reducible refine rd_cb ?_
  | with_reducible refine rd_call ?_
  | with_reducible refine rd_meth ?_
  | with_reducible refine rd_sub ?_
  | with_reducible refine rd_fl ?_
  | with_reducible refine rd_tup ?_
  | with_reducible refine rd_lst ?_
  | with_reducible refine rd_sl ?_
  | with_reducible refine rd_part ?_
  | with_reducible refine rd_partI ?_
  | with_reducible refine rd_nopart ?_
  | with_reducible refine rd_yes ?_
  | with_reducible refine rd_dnewK ?_
  | with_reducible refine rd_dnewT ?_
  | ((with_reducible refine' rd_isT ?h ?_); (case h => walk_at "hp"))
  | with_reducible refine rd_isI ?_
  | with_reducible refine rd_isII ?_
  | with_reducible refine rd_isIB ?_
  | ((with_reducible refine' rd_sum ?h ?_); (case h => walk_at "hp"))
  | ((with_reducible refine' rd_tail ?h ?_); (case h => walk_at "hp"))
  | ((with_reducible refine rd_newO ?_); intro _ _ _ _ _)
  | ((with_reducible refine' rd_lenS ?l ?_); (case l => exact rfl))
  | ((with_reducible refine' rd_ixS ?l ?e ?_); (case l => exact rfl); (case e => first | assumption | with_reducible exact EW.at_head | exact rfl))
  | with_reducible refine EW.ite_dT (by decide +kernel) ?_
  | with_reducible refine EW.ite_dF (by decide +kernel) ?_
  | with_reducible refine EW.ite_nT (by decide +kernel) ?_
  | with_reducible refine EW.ite_nF (by decide +kernel) ?_
  | with_reducible refine EW.iteNF ?_
  | with_reducible refine EW.iteNT ?_
  | with_reducible refine EW.iteEC ?_
  | with_reducible refine EW.iteEN ?_
  | with_reducible refine EW.iteNC ?_
  | with_reducible refine EW.iteNN ?_
  | with_reducible refine EW.rd_kget (by assumption) ?_
  | with_reducible refine EW.rd_kgx (by assumption) _ ?_
  | with_reducible refine EW.rd_ixD (by assumption) _ ?_
  | with_reducible refine EW.rd_chain ?_
  | with_reducible refine L2.iteT ?_
  | with_reducible refine L2.iteF ?_
  | with_reducible refine rd_bm ?_
  | with_reducible refine rd_bm0 ?_
  | with_reducible refine rd_sfld ?_
  | with_reducible refine rd_make ?_
  | ((with_reducible refine' rd_bmL ?s ?_); (case s => walk_at "hp"))
  | ((with_reducible refine' rd_bm0L ?s ?_); (case s => walk_at "hp"))
  | ((with_reducible refine' rd_mex ?s ?l ?_); (case s => walk_at "hp"); (case l => assumption))
  | with_reducible refine rd_lc ?_
  | with_reducible refine rd_for ?_
  | with_reducible refine rd_il ?_
  | with_reducible refine rd_it ?_
  | with_reducible refine rd_ir ?_
  | with_reducible refine rd_dput ?_
  | with_reducible refine rd_dget ?_
  | ((with_reducible refine' rd_ilx ?s ?_); (case s => walk_at "hp"))
  | ((with_reducible refine' rd_itx ?s ?_); (case s => walk_at "hp"))
  | ((with_reducible refine' rd_getK ?s ?e ?_); (case s => walk_at "hp"); (case e => assumption))
  | ((with_reducible refine rd_newT rfl ?_); intro _ _ _ _ _)
  | ((with_reducible refine rd_newL rfl ?_); intro _ _ _ _ _)
  | ((with_reducible refine' rd_taken ?a ?b ?c ?_); (case a => walk_at "hp"); (case b => first | omega | decide); (case c => first | omega | decide); intro _ _ _ _ _)
  | ((with_reducible refine' rd_neE ?a ?b ?_); (case a => walk_at "hp"); (case b => walk_at "hp"))
  | ((with_reducible refine' rd_eqE ?a ?b ?_); (case a => walk_at "hp"); (case b => walk_at "hp"))
  | with_reducible refine rd_eq rfl ?_
  | with_reducible refine rd_ne rfl ?_
  | with_reducible refine rd_bl ?_
  | ((with_reducible refine rd_I ?c ?_); (case c => first | assumption | omega | decide | (exact Or.inl ⟨by omega, by omega⟩) | (exact ⟨by omega, by omega⟩) | (exact ⟨by decide, by decide, by decide⟩)))
  | refine Or.inl ⟨_, rfl, ?_⟩
  | refine Or.inr ⟨_, rfl, ?_⟩
  | ((with_reducible refine' rd_lenL ?s ?_); (case s => walk_at "hp"))
  | ((with_reducible refine' rd_lenT ?s ?_); (case s => walk_at "hp"))
  | ((with_reducible refine' rd_ixL ?s ?e ?_); (case s => walk_at "hp"); (case e => first | assumption | with_reducible exact EW.at_head | exact rfl))
  | ((with_reducible refine' rd_ixT ?s ?e ?_); (case s => walk_at "hp"); (case e => first | assumption | with_reducible exact EW.at_head | exact rfl))
  | ((with_reducible refine' rd_flx ?s ?c ?n ?l ?_); (case s => walk_at "hp"); (case c => assumption); (case n => assumption); (case l => assumption)))
local macro_rules | `(tactic| walk_at "go") => `(tactic| repeat (walk_at "st"))
local macro_rules | `(tactic| walk_at "gi") => `(tactic| repeat (first | with_reducible refine rd_if ?_ | walk_at "st"))
namespace EW
open PySem L2
theorem RunAt.popK {CR CF : Addr} {H : Hp} {A : RA} {l : Nat} {L : Lg} {wk : List Tk} {rs0 : List Wo} {out : Option Out} {ov : V} {kvs : List (List Key × V)} {ls ws rs : List V} {x : Tk} (h : RunAt CR CF H A ⟨l, L, wk ++ [x], rs0, out⟩ ov kvs ls ws rs) :
    ∃ ws' v, ws = ws' ++ [v] ∧ ∀ H', Kp [A.lw] H H' → H' A.lw = some (.lst ws') → RunAt CR CF H' A ⟨l, L, wk, rs0, out⟩ ov kvs ls ws' rs ∧ RT H' x v := by
  obtain ⟨ws', v, e, h1, h2⟩ := R2.last h.rk
  exact ⟨ws', v, e, fun H' k e' => ⟨h.chK k e' (h1.imp fun _ _ q => q.mono k.tup), h2.mono k.tup⟩⟩
def OutF (H : Hp) : Res → V → Prop
  | .val (.int n), v => ∃ t, v = .ref t ∧ H t = some (.tup [.str "end", nV n])
  | .val (.clo _ _ s _ _), v => ∃ t, v = .ref t ∧ H t = some (.tup [.str "function", nV s])
  | .out o, v => OutR H (some o) v
def RvF (CF : Addr) (H : Hp) : Res → V → Prop
  | .val v, x => RW CF H v.wo x
  | .out _, x => x = .non
def runG (A : RA) (left : Nat) (ov rv : V) : List (Str × V) := runF A left ov ++ [(("result" : Str), rv)]
/-- a run that is done -/
structure EndAt (CR CF : Addr) (H : Hp) (A : RA) (left : Nat) (L : Lg) (res : Res) (ov rv : V) (kvs : List (List Key × V)) (ls : List V) : Prop where
  ob : H A.p = some (.ins CR A.dx (runG A left ov rv))
  ho : H A.lo = some (.lst (L.ow.map oV))
  hu : H A.lu = some (.lst (L.up.map oV))
  hw : H A.dw = some (.dT kvs)
  hl : H A.ll = some (.lst ls)
  hm : H A.lm = some (.lst (L.md.map nV))
  rw_ : RWo CF H L.wo kvs
  rl : R2 (RL H) L.lk ls
  out : OutF H res ov
  rv : RvF CF H res rv
theorem EndAt.keep0 {CR CF : Addr} {H H' : Hp} {A : RA} {left : Nat} {L : Lg} {res : Res} {ov rv : V} {kvs : List (List Key × V)} {ls : List V} (k : Kp [] H H') (h : EndAt CR CF H A left L res ov rv kvs ls) : EndAt CR CF H' A left L res ov rv kvs ls where
  ob := k.keep _ _ h.ob ne_mem0
  ho := k.keep _ _ h.ho ne_mem0
  hu := k.keep _ _ h.hu ne_mem0
  hw := k.keep _ _ h.hw ne_mem0
  hl := k.keep _ _ h.hl ne_mem0
  hm := k.keep _ _ h.hm ne_mem0
  rw_ := h.rw_.imp fun _ _ q => q.keep k .nil
  rl := h.rl.imp fun _ _ q => q.mono k.tup
  out := by
    have o := h.out
    cases res with
    | val v =>
      cases v with
      | int n => obtain ⟨t, e, g⟩ := o; exact ⟨t, e, k.tup _ _ g⟩
      | clo _ _ s _ _ => obtain ⟨t, e, g⟩ := o; exact ⟨t, e, k.tup _ _ g⟩
    | out x => exact OutR.mono k.tup o
  rv := by
    have o := h.rv
    cases res with
    | val v => exact RW.keep k .nil o
    | out x => exact o
theorem OutF.mono {H H' : Hp} (t : Tups H H') : ∀ {r : Res} {v : V}, OutF H r v → OutF H' r v
  | .val (.int _), _, ⟨a, e, g⟩ => ⟨a, e, t _ _ g⟩
  | .val (.clo _ _ _ _ _), _, ⟨a, e, g⟩ => ⟨a, e, t _ _ g⟩
  | .out _, _, o => OutR.mono t o
theorem RunAt.fin {CR CF : Addr} {H H' : Hp} {A : RA} {M : MS} {ov ov' rv : V} {kvs : List (List Key × V)} {ls ws rs : List V} {left : Nat} {res : Res} (h : RunAt CR CF H A M ov kvs ls ws rs) (k : Kp [A.p] H H') (e : H' A.p = some (.ins CR A.dx (runG A left ov' rv))) (o : OutF H' res ov') (r : RvF CF H' res rv) : EndAt CR CF H' A left M.lg res ov' rv kvs ls := by
  have n := h.nes.p1
  have nf := h.nof.sub (RA.s_p (A := A))
  exact ⟨e, k.keep _ _ h.ho (ne_mem1 n.1.symm), k.keep _ _ h.hu (ne_mem1 n.2.1.symm), k.keep _ _ h.hw (ne_mem1 n.2.2.1.symm), k.keep _ _ h.hl (ne_mem1 n.2.2.2.1.symm), k.keep _ _ h.hm (ne_mem1 n.2.2.2.2.1.symm), h.rw_.imp fun _ _ q => q.keep k nf, h.rl.imp fun _ _ q => q.mono k.tup, o, r⟩
theorem rd_neg1 {σ : L2.St} {H : Hp} {Q : VK} (h : Q (.int (-1)) H) : tUn (rU fun i => V.int (-i)) (tC (.int 1)) σ H Q := ⟨1, rfl, h⟩
def spOutcome (CF : Addr) : Sp := fun vs H Q _ => ∃ (u : Val) (v : V), vs = [v] ∧ RW CF H u.wo v ∧ ∀ (ov : V) H', OutF H' (.val u) ov → Kp [] H H' → Q ov H'
def spNeedMost : Sp := fun vs H Q _ => ∃ m : Nat, vs = [nV m] ∧ m ≤ 60 ∧ Q .non H
theorem MS.big.mono {M : MS} {n m : Nat} (h : M.big n) (c : n ≤ m) : M.big m := by
  unfold MS.big at h ⊢
  omega
theorem StAt.pne {CR C : Addr} {H : Hp} {x p dx dp : Addr} {fl : List (Str × V)} {lo lf du : Addr} {us : Ua} {e : E} {v : V} (h : StAt H C x dx fl lo lf du us e v) (hp : H p = some (.ins CR dp [])) : ∀ m ∈ [p], m ≠ x ∧ m ∉ sM lo lf du us := by
  intro m hm
  rw [List.mem_singleton.mp hm]
  refine ⟨fun z => ?_, fun z => ?_⟩
  · have o := h.S.ob
    rw [← z, hp] at o
    have o' := Option.some.inj o
    injection o' with _ _ e3
    have := h.S.fl.o
    rw [← e3] at this
    cases this
  · unfold sM at z
    rcases List.mem_cons.mp z with e | z
    · have o := h.S.ho; rw [← e, hp] at o; cases o
    rcases List.mem_cons.mp z with e | z
    · have o := h.S.hf; rw [← e, hp] at o; cases o
    rcases List.mem_cons.mp z with e | z
    · have o := h.S.hu; rw [← e, hp] at o; cases o
    obtain ⟨u, hu, e⟩ := List.mem_map.mp z
    have o := h.S.hl u hu
    rw [e, hp] at o
    cases o
def spRun (CR CF CS : Addr) : Sp := fun vs H Q _ => ∃ (p dp x dx : Addr) (fl : List (Str × V)) (lo lf du : Addr) (us : Ua) (e : E) (v : V) (most : Nat), vs = [.ref p, .ref x, nV most] ∧ H p = some (.ins CR dp []) ∧ StAt H CS x dx fl lo lf du us e v ∧ e.Wf [] ∧ e.size ≤ 60 ∧ most ≤ 60 ∧
  ∀ (A : RA) (res : Res) (t : List Ev) (ov rv : V) (kvs : List (List Key × V)) (ls : List V) H', A.p = p → A.x = x → Run e most res t → EndAt CR CF H' A (most - nact t) (Lg0.evs t) res ov rv kvs ls → Kp [p] H H' → Q .non H'
section
variable {P : Program} {w : World} {K : PySem.W.Frag} {mg : Str → Option Value} {base : Heap} {a_SHAPES C_Sites C_Run C_Function : Addr}
theorem ok_outcome_of {f : Addr} {fd : FuncData} (A : At K mg "outcome_of" s_outcome_of ["result"] f fd) (T : TxtR K w mg a_SHAPES C_Sites C_Run C_Function) : Has P w K mg base "outcome_of" ["result"] 1 (spOutcome C_Function) := by
  refine ⟨f, fd, A.F.ok sc_outcome_of (fun vs H Q EE h => ?_) (fun cdv A outer s H vs Q EE hr h => ?_), A.m, A.F.kp, A.b⟩
  · obtain ⟨_, _, rfl, _⟩ := h
    rfl
  obtain ⟨u, v, rfl, hw, q⟩ := h
  have cf := T.cl_Function
  have f1 := T.n_f "site" (by simp)
  refine ⟨_, (pss_one (ps_ret (pe_ifExp (pt_val (pe_callB (w_isi (K := K) rfl) (by rfl) T.z_isinstance (by decide +kernel) (pa_cons (pv 0) (pa_cons (pe_glob (v := .ref C_Function) (by rfl) T.m_Function rfl) pa_nil)))) (pe_tup (pa_cons pe_str (pa_cons (w_fld (K := K) rfl (pv 0) rfl) pa_nil))) (pe_tup (pa_cons pe_str (pa_cons (pv 0) pa_nil)))))), ?_⟩
  refine at_st (σ' := [some v]) rfl ?_
  cases u with
  | int n =>
    cases hw
    walk_at "gi"
    refine rd_isF0 T.own_F ?_
    walk_at "gi"
    rename_i pt H1 np k1 h1
    exact q _ H1 ⟨pt, rfl, h1⟩ k1
  | clo k b s0 r y =>
    obtain ⟨a1, d1, y1, rfl, g1, _⟩ := hw
    have e7 : (fnF s0 y1 y).lookup ("site" : Str) = some (nV s0) := rfl
    walk_at "gi"
    refine rd_isF1 T.own_F g1 ?_
    walk_at "gi"
    rename_i pt H1 np k1 h1
    exact q _ H1 ⟨pt, rfl, h1⟩ k1
theorem ok_need_most {f : Addr} {fd : FuncData} (A : At K mg "need_most" s_need_most ["most"] f fd) (T : TxtR K w mg a_SHAPES C_Sites C_Run C_Function) : Has P w K mg base "need_most" ["most"] 1 spNeedMost := by
  refine ⟨f, fd, A.F.ok sc_need_most (fun vs H Q EE h => ?_) (fun cdv A outer s H vs Q EE hr h => ?_), A.m, A.F.kp, A.b⟩
  · obtain ⟨_, rfl, _⟩ := h
    rfl
  obtain ⟨m, rfl, hm, q⟩ := h
  refine ⟨_, (pss_one (ps_if (pt_not (pt_chain op_le op_le pe_int (pv 0) (w_gint (n := 60) (by rfl) T.m_MOST_BEGUN)))
        (pss_one ps_never)
        pss_nil)), ?_⟩
  refine at_st (σ' := [some (nV m)]) rfl ?_
  walk_at "gi"
  refine ite_dT (by omega) ?_
  walk_at "gi"
  refine ite_nF (by omega) ?_
  walk_at "gi"
  exact q
theorem ok_Run {f : Addr} {fd : FuncData} (A : AtC K C_Run "Run.__init__" s_Run___init__ ["self", "sites", "most"] f fd) (T : TxtR K w mg a_SHAPES C_Sites C_Run C_Function)
    (c_Run_step : HasM P w K mg base C_Run "step" ["self", "task"] 4 (spOne C_Run C_Function C_Sites aStep)) (c_outcome_of : Has P w K mg base "outcome_of" ["result"] 1 (spOutcome C_Function)) : HasC P w K mg base C_Run ["self", "sites", "most"] 5 (spRun C_Run C_Function C_Sites) := by
  obtain ⟨f_Run_step, fd_Run_step, G_Run_step, me_Run_step, b_Run_step⟩ := c_Run_step
  obtain ⟨f_outcome_of, fd_outcome_of, G_outcome_of, m_outcome_of, k_outcome_of, b_outcome_of⟩ := c_outcome_of
  refine ⟨f, fd, A.F.ok sc_Run___init__ (fun vs H Q EE h => ?_) (fun cdv A outer s H vs Q EE hr h => ?_), A.m, A.b⟩
  · obtain ⟨_, _, _, _, _, _, _, _, _, _, _, _, rfl, _⟩ := h
    rfl
  obtain ⟨p, dp, x, dx, fl, slo, slf, sdu, us, e, v, most, rfl, hp, S, hwf, hz, hmost, q⟩ := h
  have hu := hu_of hr
  have cl := T.cl_Run
  have cs := T.cl_Sites
  have m1 := T.n_tree
  have xne := S.pne hp
  have hx := S.S.ob
  have htr := S.tr
  have pnx : x ≠ p := fun z => (xne p List.mem_cons_self).1 z.symm
  refine ⟨_, (pss_cons (ps_fld (pv 0) (pv 1) rfl)
      (pss_cons (ps_fld (pv 0) (pv 2) rfl)
      (pss_cons (ps_fld (pv 0) (pe_lst (pa_cons pe_non pa_nil)) rfl)
      (pss_cons (ps_fld (pv 0) (pe_lst (pa_cons pe_non pa_nil)) rfl)
      (pss_cons (ps_fld (pv 0) pe_dnewT rfl)
      (pss_cons (ps_fld (pv 0) (pe_lst pa_nil) rfl)
      (pss_cons (ps_fld (pv 0) (pe_lst pa_nil) rfl)
      (pss_cons (ps_fld (pv 0) (pe_lst (pa_cons (pe_tup (pa_cons pe_str (pa_cons (w_fld (K := K) rfl (pv 1) rfl) (pa_cons pe_int pa_nil)))) pa_nil)) rfl)
      (pss_cons (ps_fld (pv 0) (pe_lst pa_nil) rfl)
      (pss_cons (ps_fld (pv 0) pe_non rfl)
      (pss_cons (ps_while PassesOwn.never (PW.pt (pw_and (pt_cmpR op_isN (w_fld (K := K) rfl (pv 0) rfl) pe_non (nomark _)) (pw_and1 (pt_cmpR (op_neE hr.units0) (w_fld (K := K) rfl (pv 0) rfl) (pe_lst pa_nil) (nomark _)))))
        (pss_one (ps_expr (pe_meth (pv 0) T.cl_Run me_Run_step G_Run_step (hr.mono (by first | decide | omega)) b_Run_step .nil pass0 (pa_cons (pe_bm0 PySem.F.plainAttrs_list PySem.F.slot_list_pop PySem.F.type_list_pop mt_pop (w_fld (K := K) rfl (pv 0) rfl)) pa_nil)))))
      (pss_cons (ps_fld (pv 0) (pe_ifExp (pt_cmpR op_isN (w_fld (K := K) rfl (pv 0) rfl) pe_non (nomark _)) (pe_ix (w_ixL (K := K) rfl) (w_fld (K := K) rfl (pv 0) rfl) (pe_un un_neg pe_int) (fun _ _ => rfl)) pe_non) rfl)
      (pss_one (ps_if (pt_cmpR op_isN (w_fld (K := K) rfl (pv 0) rfl) pe_non (nomark _))
        (pss_one (ps_fld (pv 0) (pe_call G_outcome_of (hr.mono (by first | decide | omega)) (by rfl) m_outcome_of k_outcome_of b_outcome_of .nil pass0 (pa_cons (w_fld (K := K) rfl (pv 0) rfl) pa_nil)) rfl))
        pss_nil)))))))))))))), ?_⟩
  refine at_st (σ' := [some (.ref p), some (.ref x), some (nV most)]) rfl ?_
  walk_at "go"
  refine rd_sfx hp cl (T.n_r "sites" (by simp)) (Nat.le_of_ble_eq_true rfl) fun H1 k1 hp => ?_
  walk_at "go"
  refine rd_sfx hp cl (T.n_r "left" (by simp)) (Nat.le_of_ble_eq_true rfl) fun H2 k2 hp => ?_
  have kk := k1.trans k2
  have hx := kk.keep _ _ hx (ne_mem1 pnx)
  clear k1 k2
  walk_at "go"
  rename_i lo HA nlo ka hlo
  have kz := ka
  have flo : H lo = none := kk.free (nlo)
  have plo : lo ≠ p := (ne_of_none hp (nlo)).symm
  refine rd_sfx (kz.keep _ _ hp ne_mem0) cl (T.n_r "owners" (by simp)) (Nat.le_of_ble_eq_true rfl) fun HB kb hp => ?_
  have hlo := kb.keep _ _ hlo (ne_mem1 plo)
  have hx := kb.keep _ _ (kz.keep _ _ hx ne_mem0) (ne_mem1 pnx)
  have kk := kk.trans (kz.up.trans kb)
  clear ka kb kz
  walk_at "go"
  rename_i lu HA nlu ka hlu
  have kz := ka
  have flu : H lu = none := kk.free (nlu)
  have plu : lu ≠ p := (ne_of_none hp (nlu)).symm
  have dlolu : lo ≠ lu := ne_of_none hlo (nlu)
  refine rd_sfx (kz.keep _ _ hp ne_mem0) cl (T.n_r "ups" (by simp)) (Nat.le_of_ble_eq_true rfl) fun HB kb hp => ?_
  have hlo := kb.keep _ _ (kz.keep _ _ hlo ne_mem0) (ne_mem1 plo)
  have hlu := kb.keep _ _ hlu (ne_mem1 plu)
  have hx := kb.keep _ _ (kz.keep _ _ hx ne_mem0) (ne_mem1 pnx)
  have kk := kk.trans (kz.up.trans kb)
  clear ka kb kz
  walk_at "go"
  rename_i dw HA ndw ka hdw
  have kz := ka
  have fdw : H dw = none := kk.free (ndw)
  have pdw : dw ≠ p := (ne_of_none hp (ndw)).symm
  have dlodw : lo ≠ dw := ne_of_none hlo (ndw)
  have dludw : lu ≠ dw := ne_of_none hlu (ndw)
  refine rd_sfx (kz.keep _ _ hp ne_mem0) cl (T.n_r "worths" (by simp)) (Nat.le_of_ble_eq_true rfl) fun HB kb hp => ?_
  have hlo := kb.keep _ _ (kz.keep _ _ hlo ne_mem0) (ne_mem1 plo)
  have hlu := kb.keep _ _ (kz.keep _ _ hlu ne_mem0) (ne_mem1 plu)
  have hdw := kb.keep _ _ hdw (ne_mem1 pdw)
  have hx := kb.keep _ _ (kz.keep _ _ hx ne_mem0) (ne_mem1 pnx)
  have kk := kk.trans (kz.up.trans kb)
  clear ka kb kz
  walk_at "go"
  rename_i ll HA nll ka hll
  have kz := ka
  have fll : H ll = none := kk.free (nll)
  have pll : ll ≠ p := (ne_of_none hp (nll)).symm
  have dloll : lo ≠ ll := ne_of_none hlo (nll)
  have dlull : lu ≠ ll := ne_of_none hlu (nll)
  have ddwll : dw ≠ ll := ne_of_none hdw (nll)
  refine rd_sfx (kz.keep _ _ hp ne_mem0) cl (T.n_r "looks" (by simp)) (Nat.le_of_ble_eq_true rfl) fun HB kb hp => ?_
  have hlo := kb.keep _ _ (kz.keep _ _ hlo ne_mem0) (ne_mem1 plo)
  have hlu := kb.keep _ _ (kz.keep _ _ hlu ne_mem0) (ne_mem1 plu)
  have hdw := kb.keep _ _ (kz.keep _ _ hdw ne_mem0) (ne_mem1 pdw)
  have hll := kb.keep _ _ hll (ne_mem1 pll)
  have hx := kb.keep _ _ (kz.keep _ _ hx ne_mem0) (ne_mem1 pnx)
  have kk := kk.trans (kz.up.trans kb)
  clear ka kb kz
  walk_at "go"
  rename_i lm HA nlm ka hlm
  have kz := ka
  have flm : H lm = none := kk.free (nlm)
  have plm : lm ≠ p := (ne_of_none hp (nlm)).symm
  have dlolm : lo ≠ lm := ne_of_none hlo (nlm)
  have dlulm : lu ≠ lm := ne_of_none hlu (nlm)
  have ddwlm : dw ≠ lm := ne_of_none hdw (nlm)
  have dlllm : ll ≠ lm := ne_of_none hll (nlm)
  refine rd_sfx (kz.keep _ _ hp ne_mem0) cl (T.n_r "made" (by simp)) (Nat.le_of_ble_eq_true rfl) fun HB kb hp => ?_
  have hlo := kb.keep _ _ (kz.keep _ _ hlo ne_mem0) (ne_mem1 plo)
  have hlu := kb.keep _ _ (kz.keep _ _ hlu ne_mem0) (ne_mem1 plu)
  have hdw := kb.keep _ _ (kz.keep _ _ hdw ne_mem0) (ne_mem1 pdw)
  have hll := kb.keep _ _ (kz.keep _ _ hll ne_mem0) (ne_mem1 pll)
  have hlm := kb.keep _ _ hlm (ne_mem1 plm)
  have hx := kb.keep _ _ (kz.keep _ _ hx ne_mem0) (ne_mem1 pnx)
  have kk := kk.trans (kz.up.trans kb)
  clear ka kb kz
  walk_at "go"
  rename_i tw HT ntw kt htw lw HA nlw ka hlw
  have kz := kt.trans ka
  have flw : H lw = none := kk.free (kt.free nlw)
  have plw : lw ≠ p := (ne_of_none hp (kt.free nlw)).symm
  have dlolw : lo ≠ lw := ne_of_none hlo (kt.free nlw)
  have dlulw : lu ≠ lw := ne_of_none hlu (kt.free nlw)
  have ddwlw : dw ≠ lw := ne_of_none hdw (kt.free nlw)
  have dlllw : ll ≠ lw := ne_of_none hll (kt.free nlw)
  have dlmlw : lm ≠ lw := ne_of_none hlm (kt.free nlw)
  have htw := ka.tup _ _ htw
  refine rd_sfx (kz.keep _ _ hp ne_mem0) cl (T.n_r "work" (by simp)) (Nat.le_of_ble_eq_true rfl) fun HB kb hp => ?_
  have hlo := kb.keep _ _ (kz.keep _ _ hlo ne_mem0) (ne_mem1 plo)
  have hlu := kb.keep _ _ (kz.keep _ _ hlu ne_mem0) (ne_mem1 plu)
  have hdw := kb.keep _ _ (kz.keep _ _ hdw ne_mem0) (ne_mem1 pdw)
  have hll := kb.keep _ _ (kz.keep _ _ hll ne_mem0) (ne_mem1 pll)
  have hlm := kb.keep _ _ (kz.keep _ _ hlm ne_mem0) (ne_mem1 plm)
  have hlw := kb.keep _ _ hlw (ne_mem1 plw)
  have htw := kb.tup _ _ htw
  have hx := kb.keep _ _ (kz.keep _ _ hx ne_mem0) (ne_mem1 pnx)
  have kk := kk.trans (kz.up.trans kb)
  clear kt ka kb kz
  walk_at "go"
  rename_i lr HA nlr ka hlr
  have kz := ka
  have flr : H lr = none := kk.free (nlr)
  have plr : lr ≠ p := (ne_of_none hp (nlr)).symm
  have dlolr : lo ≠ lr := ne_of_none hlo (nlr)
  have dlulr : lu ≠ lr := ne_of_none hlu (nlr)
  have ddwlr : dw ≠ lr := ne_of_none hdw (nlr)
  have dlllr : ll ≠ lr := ne_of_none hll (nlr)
  have dlmlr : lm ≠ lr := ne_of_none hlm (nlr)
  have dlwlr : lw ≠ lr := ne_of_none hlw (nlr)
  refine rd_sfx (kz.keep _ _ hp ne_mem0) cl (T.n_r "results" (by simp)) (Nat.le_of_ble_eq_true rfl) fun HB kb hp => ?_
  have hlo := kb.keep _ _ (kz.keep _ _ hlo ne_mem0) (ne_mem1 plo)
  have hlu := kb.keep _ _ (kz.keep _ _ hlu ne_mem0) (ne_mem1 plu)
  have hdw := kb.keep _ _ (kz.keep _ _ hdw ne_mem0) (ne_mem1 pdw)
  have hll := kb.keep _ _ (kz.keep _ _ hll ne_mem0) (ne_mem1 pll)
  have hlm := kb.keep _ _ (kz.keep _ _ hlm ne_mem0) (ne_mem1 plm)
  have hlw := kb.keep _ _ (kz.keep _ _ hlw ne_mem0) (ne_mem1 plw)
  have hlr := kb.keep _ _ hlr (ne_mem1 plr)
  have htw := kb.tup _ _ (kz.tup _ _ htw)
  have hx := kb.keep _ _ (kz.keep _ _ hx ne_mem0) (ne_mem1 pnx)
  have kk := kk.trans (kz.up.trans kb)
  clear ka kb kz
  walk_at "go"
  refine rd_sfx hp cl (T.n_r "outcome" (by simp)) (Nat.le_of_ble_eq_true rfl) fun HB kb hp => ?_
  have hlo := kb.keep _ _ hlo (ne_mem1 plo)
  have hlu := kb.keep _ _ hlu (ne_mem1 plu)
  have hdw := kb.keep _ _ hdw (ne_mem1 pdw)
  have hll := kb.keep _ _ hll (ne_mem1 pll)
  have hlm := kb.keep _ _ hlm (ne_mem1 plm)
  have hlw := kb.keep _ _ hlw (ne_mem1 plw)
  have hlr := kb.keep _ _ hlr (ne_mem1 plr)
  have htw := kb.tup _ _ htw
  have hx := kb.keep _ _ hx (ne_mem1 pnx)
  have kk := kk.trans kb
  clear kb
  have SB := S.keep kk xne
  have slop : slo ≠ p := fun z => (xne p List.mem_cons_self).2 (by rw [← z]; exact List.mem_cons_self)
  have Si : SiAt C_Sites HB ⟨p, dp, x, lo, lu, dw, ll, lm, lw, lr⟩ dx fl slo (own e none 0) := by
    have ex := S.S.ob
    have el := S.S.ho
    refine ⟨SB.S.ob, SB.S.fl.o, SB.S.ho, ?_, ?_⟩
    · unfold RA.M
      simp only [List.mem_cons, List.not_mem_nil, or_false, not_or]
      exact ⟨pnx, ne_of_none ex flo, ne_of_none ex flu, ne_of_none ex fdw, ne_of_none ex fll, ne_of_none ex flm, ne_of_none ex flw, ne_of_none ex flr⟩
    · unfold RA.M
      simp only [List.mem_cons, List.not_mem_nil, or_false, not_or]
      exact ⟨slop, ne_of_none el flo, ne_of_none el flu, ne_of_none el fdw, ne_of_none el fll, ne_of_none el flm, ne_of_none el flw, ne_of_none el flr⟩
  have R0 : RunAt C_Run C_Function HB ⟨p, dp, x, lo, lu, dw, ll, lm, lw, lr⟩ ⟨most, Lg0, [.run (sit e sc0 0) 0], [], none⟩ .non [] [] [.ref tw] [] :=
    ⟨hp, hlo, hlu, hdw, hll, hlm, hlw, hlr, by simp only [List.nodup_cons, List.mem_cons, List.not_mem_nil, or_false, not_or, List.nodup_nil, and_true, not_false_eq_true]; exact ⟨⟨dlolu, dloll, dlolm, dlolw, dlolr⟩, ⟨dlull, dlulm, dlulw, dlulr⟩, ⟨dlllm, dlllw, dlllr⟩, ⟨dlmlw, dlmlr⟩, dlwlr⟩, trivial, trivial, ⟨⟨tw, v, rfl, htw, SB.re⟩, trivial⟩, trivial⟩
  obtain ⟨res, t, rn, -⟩ := Run.all hwf most
  obtain ⟨k, M, hk, st, fi⟩ := rn.mach
  have hnt := rn.le
  have hkb : k ≤ 11000 := by
    have h1 : 3 * e.size * nact t ≤ 180 * 60 := Nat.mul_le_mul (by omega) (by omega)
    omega
  have frA : ∀ m ∈ (⟨p, dp, x, lo, lu, dw, ll, lm, lw, lr⟩ : RA).M, m ∈ [p] ∨ H m = none := by
    intro m hm
    unfold RA.M at hm
    simp only [List.mem_cons, List.not_mem_nil, or_false] at hm
    rcases hm with rfl | rfl | rfl | rfl | rfl | rfl | rfl | rfl
    · exact .inl List.mem_cons_self
    · exact .inr flo
    · exact .inr flu
    · exact .inr fdw
    · exact .inr fll
    · exact .inr flm
    · exact .inr flw
    · exact .inr flr
  have qq := fun ov rv kvs ls H' h1 (h2 : Kp (⟨p, dp, x, lo, lu, dw, ll, lm, lw, lr⟩ : RA).M HB H') => q ⟨p, dp, x, lo, lu, dw, ll, lm, lw, lr⟩ res t ov rv kvs ls H' rfl rfl rn h1 (kk.fresh h2 frA)
  generalize hA : (⟨p, dp, x, lo, lu, dw, ll, lm, lw, lr⟩ : RA) = A' at R0 Si qq
  obtain rfl : p = A'.p := by rw [← hA]
  clear hA frA
  walk_at "st"
  refine rd_while (fun m σ' H' => ∃ M1 ov kvs ls ws rs n, σ' = [some (.ref A'.p), some (.ref x), some (nV most)] ∧ RunAt C_Run C_Function H' A' M1 ov kvs ls ws rs ∧ OutR H' M1.out ov ∧ SiAt C_Sites H' A' dx fl slo (own e none 0) ∧ Kp A'.M HB H' ∧ Steps (so0 e) m M1 M ∧ M1.big n ∧ n + 3 * m ≤ 900000) k
    ⟨_, _, _, _, _, _, 1, rfl, R0, rfl, Si, Kp.refl, st, ⟨Nat.le_refl _, Nat.zero_le _, Nat.le_refl _, Nat.le_refl _, Nat.zero_le _, Nat.zero_le _, Nat.zero_le _⟩, by omega⟩ ?_
  rintro m _ H1 ⟨M1, ov, kvs, ls, ws, rs, n, rfl, R1, o1, S1, k1, st1, big1, hn⟩
  have hob1 := R1.ob
  have hk1 := R1.hk
  have e1 : (runF A' M1.left ov).lookup ("outcome" : Str) = some ov := rfl
  have e2 : (runF A' M1.left ov).lookup ("work" : Str) = some (.ref A'.lw) := rfl
  have n1 := T.n_r "outcome" (by simp)
  have n2 := T.n_r "work" (by simp)
  have n3 := T.n_r "results" (by simp)
  have n4 := T.n_r "result" (by simp)
  cases st1 with
  | cons sp rest =>
    obtain ⟨tk, l, L, wk, rs0, rfl, s1⟩ := sp.st1
    obtain ⟨ws', v', rfl, P1⟩ := R1.popK
    have hov : ov = .non := o1
    subst hov
    walk_at "go"
    refine ⟨rfl, ?_⟩
    walk_at "go"
    rename_i pe H2 nep k2 h2
    rw [if_pos (by simp)]
    refine ⟨_, fun σ2 H2 h => ⟨_, Nat.lt_succ_self _, h⟩, ?_⟩
    have R2' := R1.keep0 k2
    have hob2 := R2'.ob
    have hk2 := R2'.hk
    have e4 : (runF A' l .non).lookup ("step" : Str) = none := rfl
    walk_at "go"
    refine rd_pop hk2 fun H3 k3 h3 => ?_
    obtain ⟨R3, rt⟩ := P1 H3 (k2.up.trans k3) h3
    have k13 : Kp A'.M H1 H3 := k2.up.trans (k3.mono RA.s_lw)
    walk_at "go"
    refine ⟨A', tk, l, L, wk, rs0, _, kvs, ls, ws', rs, dx, fl, slo, own e none 0, _, rfl, ⟨v', rfl, rt⟩, R3, S1.keep k13, s1, ?_, fun ov2 kvs2 ls2 ws2 rs2 H4 R4 o4 k4 => ⟨_, ov2, kvs2, ls2, ws2, rs2, n + 3, rfl, R4, o4, (S1.keep k13).keep k4, (k1.trans k13).trans k4, rest, sp.big big1, by omega⟩⟩
    have := big1
    unfold MS.big at this ⊢
    simp at this ⊢
    omega
  | nil =>
    cases res with
    | val u =>
      have fi' : M = ⟨most - nact t, Lg0.evs t, [], [] ++ [u.wo], none⟩ := fi
      subst fi'
      have hov : ov = .non := o1
      subst hov
      have hws : ws = [] := by
        have h := R1.rk
        cases ws with
        | nil => rfl
        | cons a b => exact h.elim
      subst hws
      obtain ⟨rs', rv, rfl, hrs', hrv⟩ := R2.last (us := []) R1.rr
      have hrs : rs' = [] := by
        cases rs' with
        | nil => rfl
        | cons a b => exact hrs'.elim
      subst hrs
      have e5 : (runF A' (most - nact t) .non).lookup ("results" : Str) = some (.ref A'.lr) := rfl
      walk_at "go"
      refine ⟨rfl, ?_⟩
      walk_at "go"
      rename_i pe H2 nep k2 h2
      have R2' := R1.keep0 k2
      have hob2 := R2'.ob
      have hr2 := R2'.hr
      have rv2 := hrv.keep k2 .nil
      have k12 : Kp A'.M HB H2 := k1.trans k2.up
      refine ⟨rfl, ?_⟩
      walk_at "go"
      refine rd_neg1 ?_
      refine rd_ixL (v := rv) (SqL.of hr2) rfl ?_
      walk_at "go"
      refine rd_sfx hob2 cl n4 (Nat.le_of_ble_eq_true rfl) fun H3 k3 h3 => ?_
      have h3' : H3 A'.p = some (.ins C_Run A'.dx (runG A' (most - nact t) .non rv)) := h3
      have e6 : (runG A' (most - nact t) .non rv).lookup ("outcome" : Str) = some .non := rfl
      have e7 : (runG A' (most - nact t) .non rv).lookup ("result" : Str) = some rv := rfl
      have nf := R2'.nof.sub (RA.s_p (A := A'))
      clear h3 k2
      walk_at "gi"
      refine ⟨rfl, ?_⟩
      walk_at "gi"
      refine ⟨u, rv, rfl, rv2.keep k3 nf, fun ov' H4 o4 k4 => ?_⟩
      walk_at "gi"
      refine rd_sfx (k4.keep _ _ h3' ne_mem0) cl n1 (Nat.le_of_ble_eq_true rfl) fun H5 k5 h5 => ?_
      have k35 : Kp [A'.p] H2 H5 := (k3.trans k4.up).trans k5
      exact qq ov' rv kvs ls H5 (R2'.fin k35 h5 (OutF.mono k5.tup o4) (rv2.keep k35 nf)) (k12.trans (k35.mono RA.s_p))
    | out o =>
      obtain ⟨f1, f2, f3⟩ := fi
      rw [f3] at o1
      obtain ⟨to, rfl⟩ : ∃ to, ov = .ref to := by
        cases o <;> obtain ⟨to, e, _⟩ := o1 <;> exact ⟨to, e⟩
      walk_at "go"
      refine ⟨rfl, ?_⟩
      walk_at "go"
      refine ite_dF (fun z => nomatch z) ?_
      walk_at "go"
      refine ⟨rfl, ?_⟩
      walk_at "go"
      refine ite_dF (fun z => nomatch z) ?_
      walk_at "go"
      refine rd_sfx hob1 cl n4 (Nat.le_of_ble_eq_true rfl) fun H3 k3 h3 => ?_
      have h3' : H3 A'.p = some (.ins C_Run A'.dx (runG A' M.left (.ref to) .non)) := h3
      have e6 : (runG A' M.left (.ref to) .non).lookup ("outcome" : Str) = some (.ref to) := rfl
      clear h3
      walk_at "gi"
      refine ⟨rfl, ?_⟩
      walk_at "gi"
      refine ite_dF (fun z => nomatch z) ?_
      walk_at "gi"
      have fin := R1.fin (res := .out o) k3 h3' (OutR.mono k3.tup o1) rfl
      rw [f1, f2] at fin
      exact qq _ _ _ _ H3 fin (k1.trans (k3.mono RA.s_p))
end
end EW

end
section
open PySem L2 EW
local macro_rules | `(tactic| walk_at "ne") => `(tactic| first
  | assumption
  | exact Ne.symm (by assumption)
  | ((with_reducible refine' EW.RowAt.newne ?n ?h); (case n => assumption); (case h => walk_at "hp"))
  | ((with_reducible refine' Ne.symm (EW.RowAt.newne ?n ?h)); (case n => assumption); (case h => walk_at "hp"))
  | ((with_reducible refine' EW.BoxAt.newne ?n ?h); (case n => assumption); (case h => walk_at "hp"))
  | ((with_reducible refine' Ne.symm (EW.BoxAt.newne ?n ?h)); (case n => assumption); (case h => walk_at "hp")))
local macro_rules | `(tactic| walk_at "ns") => `(tactic| first
  | assumption
  | exact EW.RowAt.ne (by assumption)
  | ((with_reducible refine' EW.RowAt.notin ?n ?h); (case n => assumption); (case h => walk_at "hp")))
local macro_rules | `(tactic| walk_at "ni") => `(tactic| first
  | with_reducible exact EW.ne_mem0
  | with_reducible exact EW.dis0
  | ((with_reducible refine' EW.ne_mem1 ?h); (case h => walk_at "ne"))
  | ((with_reducible refine' EW.ne_mem2 ?h ?g); (case h => walk_at "ne"); (case g => walk_at "ne"))
  | ((with_reducible refine' EW.dis1 ?h); (case h => walk_at "ns"))
  | ((with_reducible refine' EW.dis2 ?h ?g); (case h => walk_at "ns"); (case g => walk_at "ns")))
local macro_rules | `(tactic| walk_at "hp") => `(tactic| first
  | assumption
  | ((with_reducible refine' EW.RE.mono (EW.Kp.tup ?k) ?h); (case k => assumption); (case h => walk_at "hp"))
  | ((with_reducible refine' EW.Kp.tup ?k _ _ ?h); (case k => assumption); (case h => walk_at "hp"))
  | ((with_reducible refine' EW.kp_tup ?k ?h); (case k => assumption); (case h => walk_at "hp"))
  | ((with_reducible refine' EW.Kp.keep ?k _ _ ?h ?n); (case k => assumption); (case h => walk_at "hp"); (case n => walk_at "ni"))
  | ((with_reducible refine' EW.Kp.seqL ?k ?h ?n); (case k => assumption); (case h => walk_at "hp"); (case n => walk_at "ni"))
  | ((with_reducible refine' EW.RowAt.keep ?k ?h ?n1 ?n2); (case k => assumption); (case h => walk_at "hp"); (case n1 => walk_at "ni"); (case n2 => walk_at "ni"))
  | ((with_reducible refine' EW.ScAt.keep ?k ?h ?n); (case k => assumption); (case h => walk_at "hp"); (case n => walk_at "ni"))
  | ((with_reducible refine' EW.BoxAt.keep ?k ?h ?n); (case k => assumption); (case h => walk_at "hp"); (case n => walk_at "ni"))
  | ((with_reducible refine' L2.SqL.of ?h); (case h => walk_at "hp"))
  | ((with_reducible refine' L2.SqT.of ?h); (case h => walk_at "hp")))
local macro_rules | `(tactic| walk_at "sb") => `(tactic| first
  | exact EW.sub0
  | exact EW.sub_refl
  | exact EW.sub_l
  | exact EW.sub_r)
local macro_rules | `(tactic| walk_at "kp") => `(tactic| first
  | exact EW.Kp.refl
  | assumption
  | ((with_reducible refine' EW.Kp.trans ?h (EW.Kp.mono ?k ?s)); (case k => assumption); (case s => walk_at "sb"); (case h => walk_at "kp")))
local macro_rules | `(tactic| walk_at "st") => `(tactic| first
  | with_reducible refine rd_seq ?_
  | with_reducible refine rd_next ?_
  | with_reducible refine rd_asg ?_
  | with_reducible refine rd_name ?_
  | with_reducible refine rd_ret ?_
  | with_reducible refine rd_drop ?_
  | ((with_reducible refine' rd_var ?e ?_); (case e => first | with_reducible assumption | exact rfl | assumption))
  | with_reducible refine rd_c ?_
  | with_reducible refine rd_op ?_
  | with_reducible refine rd_I0 ?_
  | with_reducible refine rd_test ?_
  | with_reducible refine rd_tB ?_
  | with_reducible refine rd_not ?_
  | with_reducible refine rd_and ?_
  | with_reducible refine rd_or ?_
  | with_reducible refine rd_ifE ?_
  | with_reducible refine rd_notV ?_
  | with_reducible refine rd_andV ?_
  | with_reducible refine rd_orV ?_
  | with_reducible refine rd_cons ?_
  | with_reducible refine EW.rd_par ?_
  | with_reducible refine EW.rd_par2 ?_
  | with_reducible refine EW.rd_parT ?_
  | with_reducible refine EW.rd_par3 ?_
  | with_reducible refine rd_nil ?_
  | with_reducible refine rd_cb ?_
  | with_reducible refine rd_call ?_
  | with_reducible refine rd_meth ?_
  | with_reducible refine rd_sub ?_
  | with_reducible refine rd_fl ?_
  | with_reducible refine rd_tup ?_
  | with_reducible refine rd_lst ?_
  | with_reducible refine rd_sl ?_
  | with_reducible refine rd_part ?_
  | with_reducible refine rd_partI ?_
  | with_reducible refine rd_nopart ?_
  | with_reducible refine rd_yes ?_
  | with_reducible refine rd_dnewK ?_
  | with_reducible refine rd_dnewT ?_
  | ((with_reducible refine' rd_isT ?h ?_); (case h => walk_at "hp"))
  | with_reducible refine rd_isI ?_
  | with_reducible refine rd_isII ?_
  | with_reducible refine rd_isIB ?_
  | ((with_reducible refine' rd_sum ?h ?_); (case h => walk_at "hp"))
  | ((with_reducible refine' rd_tail ?h ?_); (case h => walk_at "hp"))
  | ((with_reducible refine rd_newO ?_); intro _ _ _ _ _)
  | ((with_reducible refine' rd_lenS ?l ?_); (case l => exact rfl))
  | ((with_reducible refine' rd_ixS ?l ?e ?_); (case l => exact rfl); (case e => first | assumption | with_reducible exact EW.at_head | exact rfl))
  | with_reducible refine EW.ite_dT (by decide +kernel) ?_
  | with_reducible refine EW.ite_dF (by decide +kernel) ?_
  | with_reducible refine EW.ite_nT (by decide +kernel) ?_
  | with_reducible refine EW.ite_nF (by decide +kernel) ?_
  | with_reducible refine EW.iteNF ?_
  | with_reducible refine EW.iteNT ?_
  | with_reducible refine EW.iteEC ?_
  | with_reducible refine EW.iteEN ?_
  | with_reducible refine EW.iteNC ?_
  | with_reducible refine EW.iteNN ?_
  | with_reducible refine EW.rd_kget (by assumption) ?_
  | with_reducible refine EW.rd_kgx (by assumption) _ ?_
  | with_reducible refine EW.rd_ixD (by assumption) _ ?_
  | with_reducible refine EW.rd_chain ?_
  | with_reducible refine L2.iteT ?_
  | with_reducible refine L2.iteF ?_
  | with_reducible refine rd_bm ?_
  | with_reducible refine rd_bm0 ?_
  | with_reducible refine rd_sfld ?_
  | with_reducible refine rd_make ?_
  | ((with_reducible refine' rd_bmL ?s ?_); (case s => walk_at "hp"))
  | ((with_reducible refine' rd_bm0L ?s ?_); (case s => walk_at "hp"))
  | ((with_reducible refine' rd_mex ?s ?l ?_); (case s => walk_at "hp"); (case l => assumption))
  | with_reducible refine rd_lc ?_
  | with_reducible refine rd_for ?_
  | with_reducible refine rd_il ?_
  | with_reducible refine rd_it ?_
  | with_reducible refine rd_ir ?_
  | with_reducible refine rd_dput ?_
  | with_reducible refine rd_dget ?_
  | ((with_reducible refine' rd_ilx ?s ?_); (case s => walk_at "hp"))
  | ((with_reducible refine' rd_itx ?s ?_); (case s => walk_at "hp"))
  | ((with_reducible refine' rd_getK ?s ?e ?_); (case s => walk_at "hp"); (case e => assumption))
  | ((with_reducible refine rd_newT rfl ?_); intro _ _ _ _ _)
  | ((with_reducible refine rd_newL rfl ?_); intro _ _ _ _ _)
  | ((with_reducible refine' rd_taken ?a ?b ?c ?_); (case a => walk_at "hp"); (case b => first | omega | decide); (case c => first | omega | decide); intro _ _ _ _ _)
  | ((with_reducible refine' rd_neE ?a ?b ?_); (case a => walk_at "hp"); (case b => walk_at "hp"))
  | ((with_reducible refine' rd_eqE ?a ?b ?_); (case a => walk_at "hp"); (case b => walk_at "hp"))
  | with_reducible refine rd_eq rfl ?_
  | with_reducible refine rd_ne rfl ?_
  | with_reducible refine rd_bl ?_
  | ((with_reducible refine rd_I ?c ?_); (case c => first | assumption | omega | decide | (exact Or.inl ⟨by omega, by omega⟩) | (exact ⟨by omega, by omega⟩) | (exact ⟨by decide, by decide, by decide⟩)))
  | refine Or.inl ⟨_, rfl, ?_⟩
  | refine Or.inr ⟨_, rfl, ?_⟩
  | ((with_reducible refine' rd_lenL ?s ?_); (case s => walk_at "hp"))
  | ((with_reducible refine' rd_lenT ?s ?_); (case s => walk_at "hp"))
  | ((with_reducible refine' rd_ixL ?s ?e ?_); (case s => walk_at "hp"); (case e => first | assumption | with_reducible exact EW.at_head | exact rfl))
  | ((with_reducible refine' rd_ixT ?s ?e ?_); (case s => walk_at "hp"); (case e => first | assumption | with_reducible exact EW.at_head | exact rfl))
  | ((with_reducible refine' rd_flx ?s ?c ?n ?l ?_); (case s => walk_at "hp"); (case c => assumption); (case n => assumption); (case l => assumption)))
local macro_rules | `(tactic| walk_at "go") => `(tactic| repeat (walk_at "st"))
local macro_rules | `(tactic| walk_at "gi") => `(tactic| repeat (first | with_reducible refine rd_if ?_ | walk_at "st"))
namespace EW
open PySem L2
/-- a run of a program, done, with its sites -/
structure DoneAt (CR CF CS : Addr) (H : Hp) (e : E) (most : Nat) (A : RA) (res : Res) (t : List Ev) (ov rv : V) (kvs : List (List Key × V)) (ls : List V) (dx : Addr) (fl : List (Str × V)) (lo lf du : Addr) (us : Ua) (v : V) : Prop where
  run : Run e most res t
  fin : EndAt CR CF H A (most - nact t) (Lg0.evs t) res ov rv kvs ls
  st : StAt H CS A.x dx fl lo lf du us e v
theorem DoneAt.keep0 {CR CF CS : Addr} {H H' : Hp} {e : E} {most : Nat} {A : RA} {res : Res} {t : List Ev} {ov rv : V} {kvs : List (List Key × V)} {ls : List V} {dx : Addr} {fl : List (Str × V)} {lo lf du : Addr} {us : Ua} {v : V} (k : Kp [] H H')
    (h : DoneAt CR CF CS H e most A res t ov rv kvs ls dx fl lo lf du us v) : DoneAt CR CF CS H' e most A res t ov rv kvs ls dx fl lo lf du us v := ⟨h.run, h.fin.keep0 k, h.st.keep0 k⟩
def spRunOf (CR CF CS : Addr) : Sp := fun vs H Q _ => ∃ (e : E) (v : V) (most : Nat), vs = [v, nV most] ∧ RE H e v ∧ e.Wf [] ∧ e.depth ≤ 7 ∧ e.size ≤ 60 ∧ most ≤ 60 ∧
  ∀ A res t ov rv kvs ls dx fl lo lf du us v' H', DoneAt CR CF CS H' e most A res t ov rv kvs ls dx fl lo lf du us v' → Kp [] H H' → Q (.ref A.p) H'
def spRan : Sp := fun vs H Q _ => ∃ (e : E) (v : V) (most : Nat), vs = [v, nV most] ∧ RE H e v ∧ e.Wf [] ∧ e.depth ≤ 7 ∧ e.size ≤ 60 ∧ most ≤ 60 ∧
  ∀ res t ov H', Run e most res t → OutF H' res ov → Kp [] H H' → Q ov H'
theorem rd_ran {H : Hp} {e : E} {v : V} {most : Nat} {Q : VK} {EE : XK} (h : RE H e v) (w : e.Wf []) (d : e.depth ≤ 7) (z : e.size ≤ 60) (m : most ≤ 60) (k : ∀ res t ov H', Run e most res t → OutF H' res ov → Kp [] H H' → Q ov H') :
    spRan ([v, nV most] ++ []) H Q EE := ⟨e, v, most, rfl, h, w, d, z, m, k⟩
section
variable {P : Program} {w : World} {K : PySem.W.Frag} {mg : Str → Option Value} {base : Heap} {a_SHAPES C_Sites C_Run C_Function : Addr}
theorem ok_run_of {f : Addr} {fd : FuncData} (A : At K mg "run_of" s_run_of ["program", "most"] f fd) (T : TxtR K w mg a_SHAPES C_Sites C_Run C_Function) (c_Sites : HasC P w K mg base C_Sites ["self", "program"] 11 (spSites C_Sites))
    (c_need_most : Has P w K mg base "need_most" ["most"] 1 spNeedMost) (c_Run : HasC P w K mg base C_Run ["self", "sites", "most"] 5 (spRun C_Run C_Function C_Sites)) : Has P w K mg base "run_of" ["program", "most"] 13 (spRunOf C_Run C_Function C_Sites) := by
  obtain ⟨f_Sites, fd_Sites, G_Sites, M_Sites, b_Sites⟩ := c_Sites
  obtain ⟨f_need_most, fd_need_most, G_need_most, m_need_most, k_need_most, b_need_most⟩ := c_need_most
  obtain ⟨f_Run, fd_Run, G_Run, M_Run, b_Run⟩ := c_Run
  refine ⟨f, fd, A.F.ok sc_run_of (fun vs H Q EE h => ?_) (fun cdv A outer s H vs Q EE hr h => ?_), A.m, A.F.kp, A.b⟩
  · obtain ⟨_, _, _, rfl, _⟩ := h
    rfl
  obtain ⟨e, v, most, rfl, hre, hw, hd, hz, hm, q⟩ := h
  refine ⟨_, (pss_cons (ps_set (i := 2) sc_run_of.nd rfl (Or.inl rfl) (pe_make M_Sites G_Sites (hr.mono (by first | decide | omega)) (by rfl) T.m_Sites b_Sites .nil pass0 (pa_cons (pv 0) pa_nil)))
      (pss_cons (ps_expr (pe_call G_need_most (hr.mono (by first | decide | omega)) (by rfl) m_need_most k_need_most b_need_most .nil pass0 (pa_cons (pv 1) pa_nil)))
      (pss_one (ps_ret (pe_make M_Run G_Run (hr.mono (by first | decide | omega)) (by rfl) T.m_Run b_Run .nil pass0 (pa_cons (pv 2) (pa_cons (pv 1) pa_nil))))))), ?_⟩
  refine at_st (σ' := [some v, some (nV most), none]) rfl ?_
  walk_at "go"
  refine rd_mkx fun x dx H1 nx nd nxd k1 h1 => ?_
  refine rd_sites h1 (hre.mono k1.tup) hw hd hz fun fl lo lf du us v' H2 S k2 => ⟨rfl, ?_⟩
  have k12 : Kp [] H H2 := k1.chg nx k2
  walk_at "go"
  refine ⟨most, rfl, hm, ?_⟩
  walk_at "go"
  refine rd_mkx fun p dp H3 np nd nxd k3 h3 => ?_
  have S3 := S.keep0 k3
  have pn := S3.pne h3
  refine ⟨p, dp, x, dx, fl, lo, lf, du, us, e, v', most, rfl, h3, S3, hw, hz, hm, fun A' res t ov rv kvs ls H4 e1 e2 rn en k4 => ⟨rfl, ?_⟩⟩
  subst e1
  subst e2
  have k34 : Kp [] H2 H4 := k3.chg np k4
  exact q A' res t ov rv kvs ls dx fl lo lf du us v' H4 ⟨rn, en, S3.keep k4 pn⟩ (k12.trans k34)
theorem ok_ran {f : Addr} {fd : FuncData} (A : At K mg "ran" s_ran ["program", "most"] f fd) (T : TxtR K w mg a_SHAPES C_Sites C_Run C_Function) (c_run_of : Has P w K mg base "run_of" ["program", "most"] 13 (spRunOf C_Run C_Function C_Sites)) : Has P w K mg base "ran" ["program", "most"] 14 spRan := by
  obtain ⟨f_run_of, fd_run_of, G_run_of, m_run_of, k_run_of, b_run_of⟩ := c_run_of
  refine ⟨f, fd, A.F.ok sc_ran (fun vs H Q EE h => ?_) (fun cdv A outer s H vs Q EE hr h => ?_), A.m, A.F.kp, A.b⟩
  · obtain ⟨_, _, _, rfl, _⟩ := h
    rfl
  obtain ⟨e, v, most, rfl, hre, hw, hd, hz, hm, q⟩ := h
  have cl := T.cl_Run
  have n1 := T.n_r "outcome" (by simp)
  refine ⟨_, (pss_one (ps_ret (w_fld (K := K) rfl (pe_call G_run_of (hr.mono (by first | decide | omega)) (by rfl) m_run_of k_run_of b_run_of .nil pass0 (pa_cons (pv 0) (pa_cons (pv 1) pa_nil))) rfl))), ?_⟩
  refine at_st (σ' := [some v, some (nV most)]) rfl ?_
  walk_at "go"
  refine ⟨e, v, most, rfl, hre, hw, hd, hz, hm, fun A' res t ov rv kvs ls dx fl lo lf du us v' H' D k => ?_⟩
  have hob := D.fin.ob
  have e1 : (runG A' (most - nact t) ov rv).lookup ("outcome" : Str) = some ov := rfl
  walk_at "go"
  exact q res t ov H' D.run D.fin.out k
end
end EW

end
section
open PySem L2 EW
local macro_rules | `(tactic| walk_at "ne") => `(tactic| first
  | assumption
  | exact Ne.symm (by assumption)
  | ((with_reducible refine' EW.RowAt.newne ?n ?h); (case n => assumption); (case h => walk_at "hp"))
  | ((with_reducible refine' Ne.symm (EW.RowAt.newne ?n ?h)); (case n => assumption); (case h => walk_at "hp"))
  | ((with_reducible refine' EW.BoxAt.newne ?n ?h); (case n => assumption); (case h => walk_at "hp"))
  | ((with_reducible refine' Ne.symm (EW.BoxAt.newne ?n ?h)); (case n => assumption); (case h => walk_at "hp")))
local macro_rules | `(tactic| walk_at "ns") => `(tactic| first
  | assumption
  | exact EW.RowAt.ne (by assumption)
  | ((with_reducible refine' EW.RowAt.notin ?n ?h); (case n => assumption); (case h => walk_at "hp")))
local macro_rules | `(tactic| walk_at "ni") => `(tactic| first
  | with_reducible exact EW.ne_mem0
  | with_reducible exact EW.dis0
  | ((with_reducible refine' EW.ne_mem1 ?h); (case h => walk_at "ne"))
  | ((with_reducible refine' EW.ne_mem2 ?h ?g); (case h => walk_at "ne"); (case g => walk_at "ne"))
  | ((with_reducible refine' EW.dis1 ?h); (case h => walk_at "ns"))
  | ((with_reducible refine' EW.dis2 ?h ?g); (case h => walk_at "ns"); (case g => walk_at "ns")))
local macro_rules | `(tactic| walk_at "hp") => `(tactic| first
  | assumption
  | ((with_reducible refine' EW.RE.mono (EW.Kp.tup ?k) ?h); (case k => assumption); (case h => walk_at "hp"))
  | ((with_reducible refine' EW.Kp.tup ?k _ _ ?h); (case k => assumption); (case h => walk_at "hp"))
  | ((with_reducible refine' EW.kp_tup ?k ?h); (case k => assumption); (case h => walk_at "hp"))
  | ((with_reducible refine' EW.Kp.keep ?k _ _ ?h ?n); (case k => assumption); (case h => walk_at "hp"); (case n => walk_at "ni"))
  | ((with_reducible refine' EW.Kp.seqL ?k ?h ?n); (case k => assumption); (case h => walk_at "hp"); (case n => walk_at "ni"))
  | ((with_reducible refine' EW.RowAt.keep ?k ?h ?n1 ?n2); (case k => assumption); (case h => walk_at "hp"); (case n1 => walk_at "ni"); (case n2 => walk_at "ni"))
  | ((with_reducible refine' EW.ScAt.keep ?k ?h ?n); (case k => assumption); (case h => walk_at "hp"); (case n => walk_at "ni"))
  | ((with_reducible refine' EW.BoxAt.keep ?k ?h ?n); (case k => assumption); (case h => walk_at "hp"); (case n => walk_at "ni"))
  | ((with_reducible refine' L2.SqL.of ?h); (case h => walk_at "hp"))
  | ((with_reducible refine' L2.SqT.of ?h); (case h => walk_at "hp")))
local macro_rules | `(tactic| walk_at "sb") => `(tactic| first
  | exact EW.sub0
  | exact EW.sub_refl
  | exact EW.sub_l
  | exact EW.sub_r)
local macro_rules | `(tactic| walk_at "kp") => `(tactic| first
  | exact EW.Kp.refl
  | assumption
  | ((with_reducible refine' EW.Kp.trans ?h (EW.Kp.mono ?k ?s)); (case k => assumption); (case s => walk_at "sb"); (case h => walk_at "kp")))
local macro_rules | `(tactic| walk_at "st") => `(tactic| first
  | with_reducible refine rd_seq ?_
  | with_reducible refine rd_next ?_
  | with_reducible refine rd_asg ?_
  | with_reducible refine rd_name ?_
  | with_reducible refine rd_ret ?_
  | with_reducible refine rd_drop ?_
  | ((with_reducible refine' rd_var ?e ?_); (case e => first | with_reducible assumption | exact rfl | assumption))
  | with_reducible refine rd_c ?_
  | with_reducible refine rd_op ?_
  | with_reducible refine rd_I0 ?_
  | with_reducible refine rd_test ?_
  | with_reducible refine rd_tB ?_
  | with_reducible refine rd_not ?_
  | with_reducible refine rd_and ?_
  | with_reducible refine rd_or ?_
  | with_reducible refine rd_ifE ?_
  | with_reducible refine rd_notV ?_
  | with_reducible refine rd_andV ?_
  | with_reducible refine rd_orV ?_
  | with_reducible refine rd_cons ?_
  | with_reducible refine EW.rd_par ?_
  | with_reducible refine EW.rd_par2 ?_
  | with_reducible refine EW.rd_parT ?_
  | with_reducible refine EW.rd_par3 ?_
  | with_reducible refine rd_nil ?_
  | with_reducible refine rd_cb ?_
  | with_reducible refine rd_call ?_
  | with_reducible refine rd_meth ?_
  | with_reducible refine rd_sub ?_
  | with_reducible refine rd_fl ?_
  | with_reducible refine rd_tup ?_
  | with_reducible refine rd_lst ?_
  | with_reducible refine rd_sl ?_
  | with_reducible refine rd_part ?_
  | with_reducible refine rd_partI ?_
  | with_reducible refine rd_nopart ?_
  | with_reducible refine rd_yes ?_
  | with_reducible refine rd_dnewK ?_
  | with_reducible refine rd_dnewT ?_
  | ((with_reducible refine' rd_isT ?h ?_); (case h => walk_at "hp"))
  | with_reducible refine rd_isI ?_
  | with_reducible refine rd_isII ?_
  | with_reducible refine rd_isIB ?_
  | ((with_reducible refine' rd_sum ?h ?_); (case h => walk_at "hp"))
  | ((with_reducible refine' rd_tail ?h ?_); (case h => walk_at "hp"))
  | ((with_reducible refine rd_newO ?_); intro _ _ _ _ _)
  | ((with_reducible refine' rd_lenS ?l ?_); (case l => exact rfl))
  | ((with_reducible refine' rd_ixS ?l ?e ?_); (case l => exact rfl); (case e => first | assumption | with_reducible exact EW.at_head | exact rfl))
  | with_reducible refine EW.ite_dT (by decide +kernel) ?_
  | with_reducible refine EW.ite_dF (by decide +kernel) ?_
  | with_reducible refine EW.ite_nT (by decide +kernel) ?_
  | with_reducible refine EW.ite_nF (by decide +kernel) ?_
  | with_reducible refine EW.iteNF ?_
  | with_reducible refine EW.iteNT ?_
  | with_reducible refine EW.iteEC ?_
  | with_reducible refine EW.iteEN ?_
  | with_reducible refine EW.iteNC ?_
  | with_reducible refine EW.iteNN ?_
  | with_reducible refine EW.rd_kget (by assumption) ?_
  | with_reducible refine EW.rd_kgx (by assumption) _ ?_
  | with_reducible refine EW.rd_ixD (by assumption) _ ?_
  | with_reducible refine EW.rd_chain ?_
  | with_reducible refine L2.iteT ?_
  | with_reducible refine L2.iteF ?_
  | with_reducible refine rd_bm ?_
  | with_reducible refine rd_bm0 ?_
  | with_reducible refine rd_sfld ?_
  | with_reducible refine rd_make ?_
  | ((with_reducible refine' rd_bmL ?s ?_); (case s => walk_at "hp"))
  | ((with_reducible refine' rd_bm0L ?s ?_); (case s => walk_at "hp"))
  | ((with_reducible refine' rd_mex ?s ?l ?_); (case s => walk_at "hp"); (case l => assumption))
  | with_reducible refine rd_lc ?_
  | with_reducible refine rd_for ?_
  | with_reducible refine rd_il ?_
  | with_reducible refine rd_it ?_
  | with_reducible refine rd_ir ?_
  | with_reducible refine rd_dput ?_
  | with_reducible refine rd_dget ?_
  | ((with_reducible refine' rd_ilx ?s ?_); (case s => walk_at "hp"))
  | ((with_reducible refine' rd_itx ?s ?_); (case s => walk_at "hp"))
  | ((with_reducible refine' rd_getK ?s ?e ?_); (case s => walk_at "hp"); (case e => assumption))
  | ((with_reducible refine rd_newT rfl ?_); intro _ _ _ _ _)
  | ((with_reducible refine rd_newL rfl ?_); intro _ _ _ _ _)
  | ((with_reducible refine' rd_taken ?a ?b ?c ?_); (case a => walk_at "hp"); (case b => first | omega | decide); (case c => first | omega | decide); intro _ _ _ _ _)
  | ((with_reducible refine' rd_neE ?a ?b ?_); (case a => walk_at "hp"); (case b => walk_at "hp"))
  | ((with_reducible refine' rd_eqE ?a ?b ?_); (case a => walk_at "hp"); (case b => walk_at "hp"))
  | with_reducible refine rd_eq rfl ?_
  | with_reducible refine rd_ne rfl ?_
  | with_reducible refine rd_bl ?_
  | ((with_reducible refine rd_I ?c ?_); (case c => first | assumption | omega | decide | (exact Or.inl ⟨by omega, by omega⟩) | (exact ⟨by omega, by omega⟩) | (exact ⟨by decide, by decide, by decide⟩)))
  | refine Or.inl ⟨_, rfl, ?_⟩
  | refine Or.inr ⟨_, rfl, ?_⟩
  | ((with_reducible refine' rd_lenL ?s ?_); (case s => walk_at "hp"))
  | ((with_reducible refine' rd_lenT ?s ?_); (case s => walk_at "hp"))
  | ((with_reducible refine' rd_ixL ?s ?e ?_); (case s => walk_at "hp"); (case e => first | assumption | with_reducible exact EW.at_head | exact rfl))
  | ((with_reducible refine' rd_ixT ?s ?e ?_); (case s => walk_at "hp"); (case e => first | assumption | with_reducible exact EW.at_head | exact rfl))
  | ((with_reducible refine' rd_flx ?s ?c ?n ?l ?_); (case s => walk_at "hp"); (case c => assumption); (case n => assumption); (case l => assumption)))
local macro_rules | `(tactic| walk_at "go") => `(tactic| repeat (walk_at "st"))
local macro_rules | `(tactic| walk_at "gi") => `(tactic| repeat (first | with_reducible refine rd_if ?_ | walk_at "st"))
namespace EW
open PySem L2 PyProof.Rows
section
variable {X : Cx}
/-- sorted(d) of a dict whose keys are pairs of ints: k tells them by the keys' places -/
def rSortDT : List V → Hp → VK → Prop := fun vs H Q => ∃ (a : Addr) (kvs : List (List L2.Key × V)) (k : V → Int × Int), vs = [.ref a] ∧ H a = some (.dT kvs) ∧ kvs.length ≤ 1000000 ∧
  (∀ bs, IsKeys H kvs bs → ∀ b ∈ bs, H b = some (.tup [.int (k (.ref b)).1, .int (k (.ref b)).2])) ∧
  ∀ bs ys p, IsKeys H kvs bs → SrtO.Srtd (ltP k) ys → SrtO.Stb (ltP k) ys (bs.map V.ref) → H p = none → Q (.ref p) (upd H p (.lst ys))
theorem cr_sortDT (hc : X.calm = true) : CallR X (.builtin "sorted") rSortDT := by
  intro pins s σ H xs us Q I r h
  obtain ⟨d, kvs, k, rfl, hd, hsz, hkey, q⟩ := h
  obtain ⟨u, rfl, rx⟩ := r.one
  cases rx
  obtain ⟨z, hs, ks, pr, o, es, ep, ho, hx, hdt, he, hn⟩ := (show ObjOk X.prog X.w H s.heap d (.dT kvs) from (Rd.of hd).ok I.hok)
  have l1 : es.size = ks.length := size_of_entries he
  have l2 : kvs.length = ks.length := Paired.length pr
  have hline : es.size ≤ sizeLine := by rw [l1, ← l2]; exact Nat.le_trans hsz (by decide)
  refine Calls.call_function_entry PyProof.Rows.kind_sorted PyProof.Rows.plain_sorted PyProof.Rows.entry_sorted (PyProof.Rows.args_sorted1 _) ?_
  unfold Builtin.«sorted»
  refine wpAny_bind (m := checkCount "sorted" 1 1 _) (wpAny_pure ?_)
  refine wpAny_bind (PySem.W.kdu_collect (A := X.A.in1) (kdl_raw hs hx hdt) (I.ok.hd hc) ho hline fun h' tk acc hk it => ?_)
  have ea : acc.toList = ks.map fun x => Value.ref x.2.1 := by
    have hl : acc.toList.length = ks.length := by rw [Array.length_toList, it.1]; exact l1
    apply List.ext_getElem?
    intro j
    rw [List.getElem?_map]
    cases hj : acc.toList[j]? with
    | none =>
      have h1 := List.getElem?_eq_none_iff.mp hj
      rw [List.getElem?_eq_none (by omega)]
      all_goals rfl
    | some v =>
      obtain ⟨en, hen, hv⟩ := it.2 j v (by rw [← Array.getElem?_toList]; exact hj)
      have qe := entry_at he j
      rw [hen] at qe
      cases hb : ks[j]? with
      | none =>
        rw [hb] at qe
        exact nomatch (show some en = none from qe)
      | some b =>
        rw [hb] at qe
        have e2 : en = entryOfKey (tupleKind (mixKind X.prog X.w)) b := Option.some.inj qe
        rw [hv, e2]
        all_goals rfl
  have eb : acc.toList = (ks.map fun x => x.2.1).map Value.ref := by rw [ea, List.map_map]; all_goals rfl
  have I1 : Inv X pins σ H { s with heap := h', toks := tk } := I.kept hk
  have isk := isKeys_of pr
  have hal : acc.toList.length = es.size := by rw [Array.length_toList, it.1]
  refine wpAny_bind (wpAny_newList ?_ (by rw [hal]; exact hline))
  have hoL : (h'.push (seqObj "list" acc.toList.toArray 0)).get? h'.objs.size = some (seqObj "list" acc.toList.toArray 0) := Heap.get?_push_size _ rfl
  show wpAny _ _ _ _ _ { s with heap := h'.push (seqObj "list" acc.toList.toArray 0), toks := tk }
  have back : ∀ v ∈ acc.toList, ∃ a, v = Value.ref a := fun v hv => by
    rw [eb] at hv
    obtain ⟨b, _, e⟩ := List.mem_map.mp hv
    exact ⟨b, e.symm⟩
  have pairs : ∀ v ∈ acc.toList, Srt.IsPair (h'.push (seqObj "list" acc.toList.toArray 0)) v (k (backV v)).1 (k (backV v)).2 := fun v hv => by
    rw [eb] at hv
    obtain ⟨b, hb, rfl⟩ := List.mem_map.mp hv
    have ht := hkey _ isk b hb
    obtain ⟨_, its2, r2, o2, ho2, hc2, n2, hd2⟩ := I1.hok _ _ ht
    obtain ⟨u1, u2, rfl, ri, rj⟩ := vals2 r2
    obtain ⟨t1, rfl⟩ := ri
    obtain ⟨t2, rfl⟩ := rj
    exact ⟨b, o2, t1, t2, n2, rfl, Heap.get?_push_of_some _ ho2, hc2, hd2⟩
  refine wpAny_bind (wpAny_holding (wpAny_call_entry PyProof.Rows.slot_list_sort ⟨_, hoL, rfl⟩ PyProof.Rows.entry_list_sort
    (SrtO.list_sort_ord (s := { s with heap := h'.push (seqObj "list" acc.toList.toArray 0), toks := tk }) (SrtO.swo_lex fun v => k (backV v)) hoL (by rw [hal]; exact hline) (fun h2 => ?_) fun out g1 g2 => ⟨_, rfl, ?_⟩) (PyProof.Rows.args_list_sort _)))
  · refine SrtO.pairs_sortableO (by omega) pairs fun o e c => ?_
    have e' : some o = some (seqObj "list" acc.toList.toArray 0) := e.symm.trans hoL
    cases e'
    exact absurd (Value.type.inj c) (by decide)
  · obtain ⟨e', he'⟩ := PyProof.Rows.sortedHeap_at (vs := acc.toList) (out := out.toArray) hoL
    have h3 : ∀ u ∈ out, ∃ a, u = Value.ref a := fun u hu => back u (g2.perm.mem_iff.mp hu)
    have hxs : acc.toList.map backV = (ks.map fun x => x.2.1).map V.ref := by rw [eb, List.map_map]; all_goals rfl
    have hb : SrtO.Stb (ltP k) (out.map backV) ((ks.map fun x => x.2.1).map V.ref) := by
      rw [← hxs]
      exact SrtO.Stb.map (ltP_swo k) backV g2
    have hlen : (out.map backV).length ≤ sizeLine := by
      rw [hb.len, List.length_map, List.length_map, ← l1]
      exact hline
    refine wpAny_pure ⟨_, rfl, .ref h'.objs.size, upd H h'.objs.size (.lst (out.map backV)), I1.laid (t' := tk) (fun b u e => ?_) (Nat.le_refl _)
      (show ObjOk X.prog X.w _ _ _ (.lst (out.map backV)) from ⟨hlen, out, e', vals_back h3, he'⟩), rfl, q _ _ _ isk (SrtO.srtd_map g1) hb (I1.hok.fresh (Nat.le_refl _))⟩
    have hlt : b < h'.objs.size := Heap.lt_size e
    rw [PyProof.Rows.sortedHeap_old (Nat.ne_of_lt hlt) (by rw [PyProof.Rows.size_push']; exact Nat.lt_succ_of_lt hlt)]
    exact Heap.get?_push_of_some _ e
end
end EW

end
section
open PySem L2 EW
local macro_rules | `(tactic| walk_at "ne") => `(tactic| first
  | assumption
  | exact Ne.symm (by assumption)
  | ((with_reducible refine' EW.RowAt.newne ?n ?h); (case n => assumption); (case h => walk_at "hp"))
  | ((with_reducible refine' Ne.symm (EW.RowAt.newne ?n ?h)); (case n => assumption); (case h => walk_at "hp"))
  | ((with_reducible refine' EW.BoxAt.newne ?n ?h); (case n => assumption); (case h => walk_at "hp"))
  | ((with_reducible refine' Ne.symm (EW.BoxAt.newne ?n ?h)); (case n => assumption); (case h => walk_at "hp")))
local macro_rules | `(tactic| walk_at "ns") => `(tactic| first
  | assumption
  | exact EW.RowAt.ne (by assumption)
  | ((with_reducible refine' EW.RowAt.notin ?n ?h); (case n => assumption); (case h => walk_at "hp")))
local macro_rules | `(tactic| walk_at "ni") => `(tactic| first
  | with_reducible exact EW.ne_mem0
  | with_reducible exact EW.dis0
  | ((with_reducible refine' EW.ne_mem1 ?h); (case h => walk_at "ne"))
  | ((with_reducible refine' EW.ne_mem2 ?h ?g); (case h => walk_at "ne"); (case g => walk_at "ne"))
  | ((with_reducible refine' EW.dis1 ?h); (case h => walk_at "ns"))
  | ((with_reducible refine' EW.dis2 ?h ?g); (case h => walk_at "ns"); (case g => walk_at "ns")))
local macro_rules | `(tactic| walk_at "hp") => `(tactic| first
  | assumption
  | ((with_reducible refine' EW.RE.mono (EW.Kp.tup ?k) ?h); (case k => assumption); (case h => walk_at "hp"))
  | ((with_reducible refine' EW.Kp.tup ?k _ _ ?h); (case k => assumption); (case h => walk_at "hp"))
  | ((with_reducible refine' EW.kp_tup ?k ?h); (case k => assumption); (case h => walk_at "hp"))
  | ((with_reducible refine' EW.Kp.keep ?k _ _ ?h ?n); (case k => assumption); (case h => walk_at "hp"); (case n => walk_at "ni"))
  | ((with_reducible refine' EW.Kp.seqL ?k ?h ?n); (case k => assumption); (case h => walk_at "hp"); (case n => walk_at "ni"))
  | ((with_reducible refine' EW.RowAt.keep ?k ?h ?n1 ?n2); (case k => assumption); (case h => walk_at "hp"); (case n1 => walk_at "ni"); (case n2 => walk_at "ni"))
  | ((with_reducible refine' EW.ScAt.keep ?k ?h ?n); (case k => assumption); (case h => walk_at "hp"); (case n => walk_at "ni"))
  | ((with_reducible refine' EW.BoxAt.keep ?k ?h ?n); (case k => assumption); (case h => walk_at "hp"); (case n => walk_at "ni"))
  | ((with_reducible refine' L2.SqL.of ?h); (case h => walk_at "hp"))
  | ((with_reducible refine' L2.SqT.of ?h); (case h => walk_at "hp")))
local macro_rules | `(tactic| walk_at "sb") => `(tactic| first
  | exact EW.sub0
  | exact EW.sub_refl
  | exact EW.sub_l
  | exact EW.sub_r)
local macro_rules | `(tactic| walk_at "kp") => `(tactic| first
  | exact EW.Kp.refl
  | assumption
  | ((with_reducible refine' EW.Kp.trans ?h (EW.Kp.mono ?k ?s)); (case k => assumption); (case s => walk_at "sb"); (case h => walk_at "kp")))
local macro_rules | `(tactic| walk_at "st") => `(tactic| first
  | with_reducible refine rd_seq ?_
  | with_reducible refine rd_next ?_
  | with_reducible refine rd_asg ?_
  | with_reducible refine rd_name ?_
  | with_reducible refine rd_ret ?_
  | with_reducible refine rd_drop ?_
  | ((with_reducible refine' rd_var ?e ?_); (case e => first | with_reducible assumption | exact rfl | assumption))
  | with_reducible refine rd_c ?_
  | with_reducible refine rd_op ?_
  | with_reducible refine rd_I0 ?_
  | with_reducible refine rd_test ?_
  | with_reducible refine rd_tB ?_
  | with_reducible refine rd_not ?_
  | with_reducible refine rd_and ?_
  | with_reducible refine rd_or ?_
  | with_reducible refine rd_ifE ?_
  | with_reducible refine rd_notV ?_
  | with_reducible refine rd_andV ?_
  | with_reducible refine rd_orV ?_
  | with_reducible refine rd_cons ?_
  | with_reducible refine EW.rd_par ?_
  | with_reducible refine EW.rd_par2 ?_
  | with_reducible refine EW.rd_parT ?_
  | with_reducible refine EW.rd_par3 ?_
  | with_reducible refine rd_nil ?_
  | with_reducible refine rd_cb ?_
  | with_reducible refine rd_call ?_
  | with_reducible refine rd_meth ?_
  | with_reducible refine rd_sub ?_
  | with_reducible refine rd_fl ?_
  | with_reducible refine rd_tup ?_
  | with_reducible refine rd_lst ?_
  | with_reducible refine rd_sl ?_
  | with_reducible refine rd_part ?_
  | with_reducible refine rd_partI ?_
  | with_reducible refine rd_nopart ?_
  | with_reducible refine rd_yes ?_
  | with_reducible refine rd_dnewK ?_
  | with_reducible refine rd_dnewT ?_
  | ((with_reducible refine' rd_isT ?h ?_); (case h => walk_at "hp"))
  | with_reducible refine rd_isI ?_
  | with_reducible refine rd_isII ?_
  | with_reducible refine rd_isIB ?_
  | ((with_reducible refine' rd_sum ?h ?_); (case h => walk_at "hp"))
  | ((with_reducible refine' rd_tail ?h ?_); (case h => walk_at "hp"))
  | ((with_reducible refine rd_newO ?_); intro _ _ _ _ _)
  | ((with_reducible refine' rd_lenS ?l ?_); (case l => exact rfl))
  | ((with_reducible refine' rd_ixS ?l ?e ?_); (case l => exact rfl); (case e => first | assumption | with_reducible exact EW.at_head | exact rfl))
  | with_reducible refine EW.ite_dT (by decide +kernel) ?_
  | with_reducible refine EW.ite_dF (by decide +kernel) ?_
  | with_reducible refine EW.ite_nT (by decide +kernel) ?_
  | with_reducible refine EW.ite_nF (by decide +kernel) ?_
  | with_reducible refine EW.iteNF ?_
  | with_reducible refine EW.iteNT ?_
  | with_reducible refine EW.iteEC ?_
  | with_reducible refine EW.iteEN ?_
  | with_reducible refine EW.iteNC ?_
  | with_reducible refine EW.iteNN ?_
  | with_reducible refine EW.rd_kget (by assumption) ?_
  | with_reducible refine EW.rd_kgx (by assumption) _ ?_
  | with_reducible refine EW.rd_ixD (by assumption) _ ?_
  | with_reducible refine EW.rd_chain ?_
  | with_reducible refine L2.iteT ?_
  | with_reducible refine L2.iteF ?_
  | with_reducible refine rd_bm ?_
  | with_reducible refine rd_bm0 ?_
  | with_reducible refine rd_sfld ?_
  | with_reducible refine rd_make ?_
  | ((with_reducible refine' rd_bmL ?s ?_); (case s => walk_at "hp"))
  | ((with_reducible refine' rd_bm0L ?s ?_); (case s => walk_at "hp"))
  | ((with_reducible refine' rd_mex ?s ?l ?_); (case s => walk_at "hp"); (case l => assumption))
  | with_reducible refine rd_lc ?_
  | with_reducible refine rd_for ?_
  | with_reducible refine rd_il ?_
  | with_reducible refine rd_it ?_
  | with_reducible refine rd_ir ?_
  | with_reducible refine rd_dput ?_
  | with_reducible refine rd_dget ?_
  | ((with_reducible refine' rd_ilx ?s ?_); (case s => walk_at "hp"))
  | ((with_reducible refine' rd_itx ?s ?_); (case s => walk_at "hp"))
  | ((with_reducible refine' rd_getK ?s ?e ?_); (case s => walk_at "hp"); (case e => assumption))
  | ((with_reducible refine rd_newT rfl ?_); intro _ _ _ _ _)
  | ((with_reducible refine rd_newL rfl ?_); intro _ _ _ _ _)
  | ((with_reducible refine' rd_taken ?a ?b ?c ?_); (case a => walk_at "hp"); (case b => first | omega | decide); (case c => first | omega | decide); intro _ _ _ _ _)
  | ((with_reducible refine' rd_neE ?a ?b ?_); (case a => walk_at "hp"); (case b => walk_at "hp"))
  | ((with_reducible refine' rd_eqE ?a ?b ?_); (case a => walk_at "hp"); (case b => walk_at "hp"))
  | with_reducible refine rd_eq rfl ?_
  | with_reducible refine rd_ne rfl ?_
  | with_reducible refine rd_bl ?_
  | ((with_reducible refine rd_I ?c ?_); (case c => first | assumption | omega | decide | (exact Or.inl ⟨by omega, by omega⟩) | (exact ⟨by omega, by omega⟩) | (exact ⟨by decide, by decide, by decide⟩)))
  | refine Or.inl ⟨_, rfl, ?_⟩
  | refine Or.inr ⟨_, rfl, ?_⟩
  | ((with_reducible refine' rd_lenL ?s ?_); (case s => walk_at "hp"))
  | ((with_reducible refine' rd_lenT ?s ?_); (case s => walk_at "hp"))
  | ((with_reducible refine' rd_ixL ?s ?e ?_); (case s => walk_at "hp"); (case e => first | assumption | with_reducible exact EW.at_head | exact rfl))
  | ((with_reducible refine' rd_ixT ?s ?e ?_); (case s => walk_at "hp"); (case e => first | assumption | with_reducible exact EW.at_head | exact rfl))
  | ((with_reducible refine' rd_flx ?s ?c ?n ?l ?_); (case s => walk_at "hp"); (case c => assumption); (case n => assumption); (case l => assumption)))
local macro_rules | `(tactic| walk_at "go") => `(tactic| repeat (walk_at "st"))
local macro_rules | `(tactic| walk_at "gi") => `(tactic| repeat (first | with_reducible refine rd_if ?_ | walk_at "st"))
namespace EW
open PySem L2
def Way.v : Way → V
  | .flat => .str "flat"
  | .tied => .str "tied"
  | .shared => .str "shared"
/-- what the top has of costs.py -/
structure TxtC (K : PySem.W.Frag) (w : World) (mg : Str → Option Value) (sh C CR CF aw : Addr) : Prop extends TxtR K w mg sh C CR CF where
  m_WAYS : mg "WAYS" = some (.ref aw)
  ways : ∀ H : Hp, SqT K H aw [.str "flat", .str "tied", .str "shared"]
def spNeedWay : Sp := fun vs H Q _ => ∃ (e : E) (v : V) (y : Way), vs = [v, y.v] ∧ RE H e v ∧ e.Wf [] ∧ e.depth ≤ 7 ∧ e.size ≤ 60 ∧ ∀ H', Kp [] H H' → Q .non H'
section
variable {P : Program} {w : World} {K : PySem.W.Frag} {mg : Str → Option Value} {base : Heap} {a_SHAPES C_Sites C_Run C_Function a_WAYS : Addr}
theorem ok_need_way {f : Addr} {fd : FuncData} (A : At K mg "need_way" s_need_way ["program", "way"] f fd) (T : TxtC K w mg a_SHAPES C_Sites C_Run C_Function a_WAYS) (c_need_program : Has P w K mg base "need_program" ["program"] 10 spNeed) : Has P w K mg base "need_way" ["program", "way"] 11 spNeedWay := by
  obtain ⟨f_need_program, fd_need_program, G_need_program, m_need_program, k_need_program, b_need_program⟩ := c_need_program
  refine ⟨f, fd, A.F.ok sc_need_way (fun vs H Q EE h => ?_) (fun cdv A outer s H vs Q EE hr h => ?_), A.m, A.F.kp, A.b⟩
  · obtain ⟨_, _, _, rfl, _⟩ := h
    rfl
  obtain ⟨e, v, y, rfl, hre, hw, hd, hz, q⟩ := h
  refine ⟨_, (pss_cons (ps_expr (pe_call G_need_program (hr.mono (by first | decide | omega)) (by rfl) m_need_program k_need_program b_need_program .nil pass0 (pa_cons (pv 0) pa_nil)))
      (pss_one (ps_if (pt_cmpR (w_notIn (K := K) rfl) (pv 1) (pe_glob (v := .ref a_WAYS) (by rfl) T.m_WAYS rfl) rfl)
        (pss_one ps_never)
        pss_nil))), ?_⟩
  refine at_st (σ' := [some v, some y.v]) rfl ?_
  walk_at "go"
  refine rd_need hre hw hd hz fun H1 k1 => ?_
  walk_at "gi"
  cases y with
  | flat =>
    refine rd_notInT (T.ways H1) rfl rfl ?_
    walk_at "gi"
    exact q H1 k1
  | tied =>
    refine rd_notInT (T.ways H1) rfl rfl ?_
    walk_at "gi"
    exact q H1 k1
  | shared =>
    refine rd_notInT (T.ways H1) rfl rfl ?_
    walk_at "gi"
    exact q H1 k1
end
end EW

end
section
open PySem L2 EW
local macro_rules | `(tactic| walk_at "ne") => `(tactic| first
  | assumption
  | exact Ne.symm (by assumption)
  | ((with_reducible refine' EW.RowAt.newne ?n ?h); (case n => assumption); (case h => walk_at "hp"))
  | ((with_reducible refine' Ne.symm (EW.RowAt.newne ?n ?h)); (case n => assumption); (case h => walk_at "hp"))
  | ((with_reducible refine' EW.BoxAt.newne ?n ?h); (case n => assumption); (case h => walk_at "hp"))
  | ((with_reducible refine' Ne.symm (EW.BoxAt.newne ?n ?h)); (case n => assumption); (case h => walk_at "hp")))
local macro_rules | `(tactic| walk_at "ns") => `(tactic| first
  | assumption
  | exact EW.RowAt.ne (by assumption)
  | ((with_reducible refine' EW.RowAt.notin ?n ?h); (case n => assumption); (case h => walk_at "hp")))
local macro_rules | `(tactic| walk_at "ni") => `(tactic| first
  | with_reducible exact EW.ne_mem0
  | with_reducible exact EW.dis0
  | ((with_reducible refine' EW.ne_mem1 ?h); (case h => walk_at "ne"))
  | ((with_reducible refine' EW.ne_mem2 ?h ?g); (case h => walk_at "ne"); (case g => walk_at "ne"))
  | ((with_reducible refine' EW.dis1 ?h); (case h => walk_at "ns"))
  | ((with_reducible refine' EW.dis2 ?h ?g); (case h => walk_at "ns"); (case g => walk_at "ns")))
local macro_rules | `(tactic| walk_at "hp") => `(tactic| first
  | assumption
  | ((with_reducible refine' EW.RE.mono (EW.Kp.tup ?k) ?h); (case k => assumption); (case h => walk_at "hp"))
  | ((with_reducible refine' EW.Kp.tup ?k _ _ ?h); (case k => assumption); (case h => walk_at "hp"))
  | ((with_reducible refine' EW.kp_tup ?k ?h); (case k => assumption); (case h => walk_at "hp"))
  | ((with_reducible refine' EW.Kp.keep ?k _ _ ?h ?n); (case k => assumption); (case h => walk_at "hp"); (case n => walk_at "ni"))
  | ((with_reducible refine' EW.Kp.seqL ?k ?h ?n); (case k => assumption); (case h => walk_at "hp"); (case n => walk_at "ni"))
  | ((with_reducible refine' EW.RowAt.keep ?k ?h ?n1 ?n2); (case k => assumption); (case h => walk_at "hp"); (case n1 => walk_at "ni"); (case n2 => walk_at "ni"))
  | ((with_reducible refine' EW.ScAt.keep ?k ?h ?n); (case k => assumption); (case h => walk_at "hp"); (case n => walk_at "ni"))
  | ((with_reducible refine' EW.BoxAt.keep ?k ?h ?n); (case k => assumption); (case h => walk_at "hp"); (case n => walk_at "ni"))
  | ((with_reducible refine' L2.SqL.of ?h); (case h => walk_at "hp"))
  | ((with_reducible refine' L2.SqT.of ?h); (case h => walk_at "hp")))
local macro_rules | `(tactic| walk_at "sb") => `(tactic| first
  | exact EW.sub0
  | exact EW.sub_refl
  | exact EW.sub_l
  | exact EW.sub_r)
local macro_rules | `(tactic| walk_at "kp") => `(tactic| first
  | exact EW.Kp.refl
  | assumption
  | ((with_reducible refine' EW.Kp.trans ?h (EW.Kp.mono ?k ?s)); (case k => assumption); (case s => walk_at "sb"); (case h => walk_at "kp")))
local macro_rules | `(tactic| walk_at "st") => `(tactic| first
  | with_reducible refine rd_seq ?_
  | with_reducible refine rd_next ?_
  | with_reducible refine rd_asg ?_
  | with_reducible refine rd_name ?_
  | with_reducible refine rd_ret ?_
  | with_reducible refine rd_drop ?_
  | ((with_reducible refine' rd_var ?e ?_); (case e => first | with_reducible assumption | exact rfl | assumption))
  | with_reducible refine rd_c ?_
  | with_reducible refine rd_op ?_
  | with_reducible refine rd_I0 ?_
  | with_reducible refine rd_test ?_
  | with_reducible refine rd_tB ?_
  | with_reducible refine rd_not ?_
  | with_reducible refine rd_and ?_
  | with_reducible refine rd_or ?_
  | with_reducible refine rd_ifE ?_
  | with_reducible refine rd_notV ?_
  | with_reducible refine rd_andV ?_
  | with_reducible refine rd_orV ?_
  | with_reducible refine rd_cons ?_
  | with_reducible refine EW.rd_par ?_
  | with_reducible refine EW.rd_par2 ?_
  | with_reducible refine EW.rd_parT ?_
  | with_reducible refine EW.rd_par3 ?_
  | with_reducible refine rd_nil ?_
  | with_reducible refine rd_cb ?_
  | with_reducible refine rd_call ?_
  | with_reducible refine rd_meth ?_
  | with_reducible refine rd_sub ?_
  | with_reducible refine rd_fl ?_
  | with_reducible refine rd_tup ?_
  | with_reducible refine rd_lst ?_
  | with_reducible refine rd_sl ?_
  | with_reducible refine rd_part ?_
  | with_reducible refine rd_partI ?_
  | with_reducible refine rd_nopart ?_
  | with_reducible refine rd_yes ?_
  | with_reducible refine rd_dnewK ?_
  | with_reducible refine rd_dnewT ?_
  | ((with_reducible refine' rd_isT ?h ?_); (case h => walk_at "hp"))
  | with_reducible refine rd_isI ?_
  | with_reducible refine rd_isII ?_
  | with_reducible refine rd_isIB ?_
  | ((with_reducible refine' rd_sum ?h ?_); (case h => walk_at "hp"))
  | ((with_reducible refine' rd_tail ?h ?_); (case h => walk_at "hp"))
  | ((with_reducible refine rd_newO ?_); intro _ _ _ _ _)
  | ((with_reducible refine' rd_lenS ?l ?_); (case l => exact rfl))
  | ((with_reducible refine' rd_ixS ?l ?e ?_); (case l => exact rfl); (case e => first | assumption | with_reducible exact EW.at_head | exact rfl))
  | with_reducible refine EW.ite_dT (by decide +kernel) ?_
  | with_reducible refine EW.ite_dF (by decide +kernel) ?_
  | with_reducible refine EW.ite_nT (by decide +kernel) ?_
  | with_reducible refine EW.ite_nF (by decide +kernel) ?_
  | with_reducible refine EW.iteNF ?_
  | with_reducible refine EW.iteNT ?_
  | with_reducible refine EW.iteEC ?_
  | with_reducible refine EW.iteEN ?_
  | with_reducible refine EW.iteNC ?_
  | with_reducible refine EW.iteNN ?_
  | with_reducible refine EW.rd_kget (by assumption) ?_
  | with_reducible refine EW.rd_kgx (by assumption) _ ?_
  | with_reducible refine EW.rd_ixD (by assumption) _ ?_
  | with_reducible refine EW.rd_chain ?_
  | with_reducible refine L2.iteT ?_
  | with_reducible refine L2.iteF ?_
  | with_reducible refine rd_bm ?_
  | with_reducible refine rd_bm0 ?_
  | with_reducible refine rd_sfld ?_
  | with_reducible refine rd_make ?_
  | ((with_reducible refine' rd_bmL ?s ?_); (case s => walk_at "hp"))
  | ((with_reducible refine' rd_bm0L ?s ?_); (case s => walk_at "hp"))
  | ((with_reducible refine' rd_mex ?s ?l ?_); (case s => walk_at "hp"); (case l => assumption))
  | with_reducible refine rd_lc ?_
  | with_reducible refine rd_for ?_
  | with_reducible refine rd_il ?_
  | with_reducible refine rd_it ?_
  | with_reducible refine rd_ir ?_
  | with_reducible refine rd_dput ?_
  | with_reducible refine rd_dget ?_
  | ((with_reducible refine' rd_ilx ?s ?_); (case s => walk_at "hp"))
  | ((with_reducible refine' rd_itx ?s ?_); (case s => walk_at "hp"))
  | ((with_reducible refine' rd_getK ?s ?e ?_); (case s => walk_at "hp"); (case e => assumption))
  | ((with_reducible refine rd_newT rfl ?_); intro _ _ _ _ _)
  | ((with_reducible refine rd_newL rfl ?_); intro _ _ _ _ _)
  | ((with_reducible refine' rd_taken ?a ?b ?c ?_); (case a => walk_at "hp"); (case b => first | omega | decide); (case c => first | omega | decide); intro _ _ _ _ _)
  | ((with_reducible refine' rd_neE ?a ?b ?_); (case a => walk_at "hp"); (case b => walk_at "hp"))
  | ((with_reducible refine' rd_eqE ?a ?b ?_); (case a => walk_at "hp"); (case b => walk_at "hp"))
  | with_reducible refine rd_eq rfl ?_
  | with_reducible refine rd_ne rfl ?_
  | with_reducible refine rd_bl ?_
  | ((with_reducible refine rd_I ?c ?_); (case c => first | assumption | omega | decide | (exact Or.inl ⟨by omega, by omega⟩) | (exact ⟨by omega, by omega⟩) | (exact ⟨by decide, by decide, by decide⟩)))
  | refine Or.inl ⟨_, rfl, ?_⟩
  | refine Or.inr ⟨_, rfl, ?_⟩
  | ((with_reducible refine' rd_lenL ?s ?_); (case s => walk_at "hp"))
  | ((with_reducible refine' rd_lenT ?s ?_); (case s => walk_at "hp"))
  | ((with_reducible refine' rd_ixL ?s ?e ?_); (case s => walk_at "hp"); (case e => first | assumption | with_reducible exact EW.at_head | exact rfl))
  | ((with_reducible refine' rd_ixT ?s ?e ?_); (case s => walk_at "hp"); (case e => first | assumption | with_reducible exact EW.at_head | exact rfl))
  | ((with_reducible refine' rd_flx ?s ?c ?n ?l ?_); (case s => walk_at "hp"); (case c => assumption); (case n => assumption); (case l => assumption)))
local macro_rules | `(tactic| walk_at "go") => `(tactic| repeat (walk_at "st"))
local macro_rules | `(tactic| walk_at "gi") => `(tactic| repeat (first | with_reducible refine rd_if ?_ | walk_at "st"))
namespace EW
open PySem L2
/-! how a run ends, in the heap -/
def Oc.w : Oc → Str
  | .num _ => "end"
  | .fn _ => "function"
  | .out .number => "fault"
  | .out .function => "fault"
  | .out .still => "still"
def Oc.r : Oc → List V
  | .num n => [nV n]
  | .fn s => [nV s]
  | .out .number => [.str "number"]
  | .out .function => [.str "function"]
  | .out .still => []
def OcAt (H : Hp) (o : Oc) (v : V) : Prop := ∃ t, v = .ref t ∧ H t = some (.tup (.str o.w :: o.r))
theorem OcAt.mono {H H' : Hp} (t : Tups H H') {o : Oc} {v : V} (h : OcAt H o v) : OcAt H' o v := let ⟨p, e, g⟩ := h; ⟨p, e, t _ _ g⟩
theorem OutF.oc {H : Hp} : ∀ {r : Res} {v : V}, OutF H r v → OcAt H r.oc v
  | .val (.int _), _, h => h
  | .val (.clo _ _ _ _ _), _, h => h
  | .out .number, _, h => h
  | .out .function, _, h => h
  | .out .still, _, h => h
theorem w_still {o : Oc} : V.str o.w = V.str "still" ↔ o = .out .still := by
  cases o with
  | num n => exact ⟨fun h => absurd h (by simp only [Oc.w]; decide), fun h => nomatch h⟩
  | fn n => exact ⟨fun h => absurd h (by simp only [Oc.w]; decide), fun h => nomatch h⟩
  | out x => cases x <;> simp only [Oc.w] <;> decide
theorem w_fault {o : Oc} : V.str o.w = V.str "fault" ↔ o = .out .number ∨ o = .out .function := by
  cases o with
  | num n => exact ⟨fun h => absurd h (by simp only [Oc.w]; decide), fun h => by rcases h with h | h <;> cases h⟩
  | fn n => exact ⟨fun h => absurd h (by simp only [Oc.w]; decide), fun h => by rcases h with h | h <;> cases h⟩
  | out x => cases x <;> simp only [Oc.w] <;> decide
theorem w_fn {o : Oc} : V.str o.w = V.str "function" ↔ ∃ s, o = .fn s := by
  cases o with
  | num n => exact ⟨fun h => absurd h (by simp only [Oc.w]; decide), fun ⟨s, h⟩ => nomatch h⟩
  | fn n => exact ⟨fun _ => ⟨n, rfl⟩, fun _ => rfl⟩
  | out x => cases x <;> exact ⟨fun h => absurd h (by simp only [Oc.w]; decide), fun ⟨s, h⟩ => nomatch h⟩
theorem w_end {o : Oc} : V.str o.w = V.str "end" ↔ ∃ s, o = .num s := by
  cases o with
  | num n => exact ⟨fun _ => ⟨n, rfl⟩, fun _ => rfl⟩
  | fn n => exact ⟨fun h => absurd h (by simp only [Oc.w]; decide), fun ⟨s, h⟩ => nomatch h⟩
  | out x => cases x <;> exact ⟨fun h => absurd h (by simp only [Oc.w]; decide), fun ⟨s, h⟩ => nomatch h⟩
/-! data -/
def Sh (d : PyData) (n : Nat) : Prop := d.canLay0 = true ∧ d.depth ≤ n
theorem Sh.shaped {d : PyData} {n : Nat} (h : Sh d n) (l : n ≤ 64) : SeqAt.shaped d = true := by
  unfold SeqAt.shaped
  rw [h.1, Bool.true_and]
  exact decide_eq_true (Nat.le_trans h.2 l)
theorem sh_int (i : Int) : Sh (.int i) 0 := ⟨by simp only [PyData.canLay0], by simp [PyData.depth]⟩
theorem sh_str {s : Str} (h : PySem.PyData.canLay0 (.str s) = true) : Sh (.str s) 0 := ⟨h, by simp [PyData.depth]⟩
theorem sh_none : Sh .none 0 := ⟨by simp only [PyData.canLay0], by simp [PyData.depth]⟩
theorem Sh.mono {d : PyData} {n m : Nat} (h : Sh d n) (l : n ≤ m) : Sh d m := ⟨h.1, Nat.le_trans h.2 l⟩
theorem sh_all {n : Nat} : ∀ {ds : List PyData}, (∀ d ∈ ds, Sh d n) → PyData.canLayAll0 ds = true ∧ PyData.depthAll ds ≤ n
  | [], _ => ⟨by simp only [PyData.canLayAll0], by simp [PyData.depthAll]⟩
  | d :: ds, h => by
    have q := sh_all fun x hx => h x (List.mem_cons_of_mem _ hx)
    have p := h d List.mem_cons_self
    refine ⟨by simp only [PyData.canLayAll0]; rw [p.1, q.1]; rfl, ?_⟩
    simp only [PyData.depthAll]
    exact Nat.max_le.mpr ⟨p.2, q.2⟩
theorem sh_lst {n : Nat} {ds : List PyData} (h : ∀ d ∈ ds, Sh d n) : Sh (.list ds) (n + 1) := by
  have q := sh_all h
  refine ⟨by simp only [PyData.canLay0]; exact q.1, ?_⟩
  simp only [PyData.depth]
  have := q.2
  omega
theorem sh_tup {n : Nat} {ds : List PyData} (h : ∀ d ∈ ds, Sh d n) : Sh (.tuple ds) (n + 1) := by
  have q := sh_all h
  refine ⟨by simp only [PyData.canLay0]; exact q.1, ?_⟩
  simp only [PyData.depth]
  have := q.2
  omega
section
variable {K : PySem.W.Frag} {H : Hp}
/-- the same data are not unlike -/
theorem rd_neS {x y : V} {d : PyData} {Q : VK} (hx : Dp K H x d) (hy : Dp K H y d) {n : Nat} (s : Sh d n) (l : n ≤ 64) (q : Q (.bl false) H) : rNeD K x y H Q := by
  refine ⟨d, d, hx, hy, s.shaped l, s.shaped l, ?_⟩
  rw [SeqAt.eqv_refl d s.1]
  exact q
def natD (n : Nat) : PyData := .int (n : Int)
theorem sh_nat (n : Nat) : Sh (natD n) 0 := sh_int _
theorem dp_nats : ∀ l : List Nat, DpAll K H (l.map nV) (l.map natD)
  | [] => .nil
  | n :: l => .cons (.int _) (dp_nats l)
def ocD : Oc → PyData
  | .num n => .tuple [.str "end", natD n]
  | .fn s => .tuple [.str "function", natD s]
  | .out .number => .tuple [.str "fault", .str "number"]
  | .out .function => .tuple [.str "fault", .str "function"]
  | .out .still => .tuple [.str "still"]
theorem ocD_sh (o : Oc) : Sh (ocD o) 1 := by
  cases o with
  | num n =>
    exact sh_tup fun d h => by
      simp only [List.mem_cons, List.not_mem_nil, or_false] at h
      rcases h with rfl | rfl
      · exact sh_str (by decide +kernel)
      · exact sh_nat _
  | fn n =>
    exact sh_tup fun d h => by
      simp only [List.mem_cons, List.not_mem_nil, or_false] at h
      rcases h with rfl | rfl
      · exact sh_str (by decide +kernel)
      · exact sh_nat _
  | out x => cases x with
    | number =>
      exact sh_tup fun d h => by
        simp only [List.mem_cons, List.not_mem_nil, or_false] at h
        rcases h with rfl | rfl <;> exact sh_str (by decide +kernel)
    | function =>
      exact sh_tup fun d h => by
        simp only [List.mem_cons, List.not_mem_nil, or_false] at h
        rcases h with rfl | rfl <;> exact sh_str (by decide +kernel)
    | still =>
      exact sh_tup fun d h => by
        simp only [List.mem_cons, List.not_mem_nil, or_false] at h
        rcases h with rfl
        exact sh_str (by decide +kernel)
theorem OcAt.dp {o : Oc} {v : V} (h : OcAt H o v) : Dp K H v (ocD o) := by
  obtain ⟨t, rfl, g⟩ := h
  cases o with
  | num n => exact .tup (SqT.of g) (.cons (.str _) (.cons (.int _) .nil))
  | fn n => exact .tup (SqT.of g) (.cons (.str _) (.cons (.int _) .nil))
  | out x => cases x with
    | number => exact .tup (SqT.of g) (.cons (.str _) (.cons (.str _) .nil))
    | function => exact .tup (SqT.of g) (.cons (.str _) (.cons (.str _) .nil))
    | still => exact .tup (SqT.of g) (.cons (.str _) .nil)
/-- ends that are the same -/
theorem rd_neOc {x y : V} {o : Oc} {Q : VK} (hx : OcAt H o x) (hy : OcAt H o y) (q : Q (.bl false) H) : rNeD K x y H Q := rd_neS hx.dp hy.dp (ocD_sh o) (by decide) q
/-- what uses tells -/
def useD (u : Nat × List Nat) : PyData := .tuple [natD u.1, .list (u.2.map natD)]
theorem useD_sh (us : Us) : Sh (.list (us.map useD)) 3 := sh_lst fun d h => by
  obtain ⟨u, _, rfl⟩ := List.mem_map.mp h
  exact sh_tup fun d h => by
    simp only [List.mem_cons, List.not_mem_nil, or_false] at h
    rcases h with rfl | rfl
    · exact (sh_nat _).mono (by decide)
    · exact sh_lst fun d h => by
        obtain ⟨n, _, rfl⟩ := List.mem_map.mp h
        exact sh_nat n
theorem RUs.dpAll : ∀ {us : Us} {ws : List V}, RUs H us ws → DpAll K H ws (us.map useD)
  | [], [], _ => .nil
  | u :: us, w :: ws, ⟨⟨t, a, e, g1, g2⟩, r⟩ => by
    subst e
    exact .cons (.tup (SqT.of g1) (.cons (.int _) (.cons (.lst (SqL.of g2) (dp_nats _)) .nil))) (RUs.dpAll r)
theorem RUs.dp {us : Us} {ws : List V} {a : Addr} (h : H a = some (.lst ws)) (r : RUs H us ws) : Dp K H (.ref a) (.list (us.map useD)) := .lst (SqL.of h) r.dpAll
end
theorem srt_map (d : Nat) (l : List Nat) : srt (l.map fun s => s + d) = (srt l).map fun s => s + d := by
  refine List.Perm.eq_of_pairwise (le := (· ≤ ·)) (fun a b _ _ h1 h2 => Nat.le_antisymm h1 h2) (srt_pair _) ((srt_pair l).map _ fun _ _ h => Nat.add_le_add_right h d) ?_
  exact (srt_perm _).trans ((srt_perm l).map _).symm
theorem R2.at {α : Type} {R : α → V → Prop} : ∀ {us : List α} {l : List V} {x : V} {r : List V}, R2 R us (l ++ x :: r) → ∃ u, us[l.length]? = some u ∧ R u x
  | [], [], _, _, h => h.elim
  | [], _ :: _, _, _, h => h.elim
  | u :: us, [], _, _, ⟨h, _⟩ => ⟨u, rfl, h⟩
  | u :: us, y :: l, x, r, ⟨_, q⟩ => by
    obtain ⟨u', e, h⟩ := R2.at (l := l) q
    exact ⟨u', by rw [List.length_cons, List.getElem?_cons_succ]; exact e, h⟩
/-! two or three names at once -/
section
variable {D : Ends} {σ : L2.St} {H : Hp} {ta : TA} {i j l : Nat} {x y z : V}
def Par2 (i j : Nat) (D : Ends) (σ : L2.St) (vs : List V) (H : Hp) : Prop := ∃ v w, vs = [v, w] ∧ D.nx ((σ.set i (some v)).set j (some w)) H
def Par3 (i j l : Nat) (D : Ends) (σ : L2.St) (vs : List V) (H : Hp) : Prop := ∃ u v w, vs = [u, v, w] ∧ D.nx (((σ.set i (some u)).set j (some v)).set l (some w)) H
theorem rd_par (h : ta σ H fun vs H1 => Par2 i j D σ vs H1) : tPar i j ta D σ H := h
theorem rd_par2 (h : D.nx ((σ.set i (some x)).set j (some y)) H) : Par2 i j D σ [x, y] H := ⟨x, y, rfl, h⟩
theorem rd_parT (h : ta σ H fun vs H1 => Par3 i j l D σ vs H1) : tPar3 i j l ta D σ H := h
theorem rd_par3 (h : D.nx (((σ.set i (some x)).set j (some y)).set l (some z)) H) : Par3 i j l D σ [x, y, z] H := ⟨x, y, z, rfl, h⟩
end
theorem ways_at {i : Nat} {x : V} (h : [V.str "flat", V.str "tied", V.str "shared"][i]? = some x) : ∃ y : Way, x = y.v := by
  match i, h with
  | 0, h => cases h; exact ⟨.flat, rfl⟩
  | 1, h => cases h; exact ⟨.tied, rfl⟩
  | 2, h => cases h; exact ⟨.shared, rfl⟩
theorem ne_int {a b : Int} {A B : Prop} (h : a = b) (q : B) : if (!decide (V.int a = V.int b)) = true then A else B := by rw [if_neg (by rw [decide_eq_true (by rw [h])]; exact Bool.noConfusion)]; exact q
section
variable {K : PySem.W.Frag} {a : Addr} {g : TG} {tt : TT} {te : TE} {vs : List Nat} {σ : L2.St} {H1 : Hp} {D : Addr} {Qd : Hp → Prop}
/-- a comprehension over items that stand for us: what it makes stands for what f makes of them -/
theorem lc_rel {α β : Type} {us : List α} {xs : List V} (Ri : Hp → α → V → Prop) (Ro : Addr → Hp → β → V → Prop) (f : α → β) (mi : ∀ {H H' u v}, Kp [] H H' → Ri H u v → Ri H' u v) (mo : ∀ {D H H' u v}, Kp [D] H H' → Ro D H u v → Ro D H' u v)
    (hD : H1 D = none) (hS : SqL K H1 a xs) (hl : xs.length < 1000000) (hr : R2 (Ri H1) us xs)
    (hs : ∀ u ∈ us, ∀ x H zs, Kp [] H1 H → Ri H u x → H D = some (.lst zs) → ∀ (Qy : VK) (Qn : Hp → Prop), (∀ y H4, Kp [] H H4 → Ro D H4 (f u) y → Qy y H4) →
      g x (wipe σ vs) H fun σ2 H2 => wipe σ2 vs = wipe σ vs ∧ tt σ2 H2 fun b H3 => if b = true then te σ2 H3 Qy else Qn H3)
    (hd : ∀ ys H, Kp [] H1 H → H D = some (.lst ys) → R2 (Ro D H) (us.map f) ys → Qd H) :
    ∃ W : Nat → Nat → Hp → Prop, (∃ m, W 0 m (upd H1 D (.lst []))) ∧ ∀ i m H, W i m H → ((Itl K a).stop i H ∧ Qd H) ∨ ((Itl K a).go i H ∧ ∃ Nx : Hp → Prop, (∀ H', Nx H' → ∃ m', m' < m ∧ W (i + 1) m' H') ∧
      ∀ x H', (Itl K a).yld i H x H' → g x (wipe σ vs) H' fun σ2 H2 => wipe σ2 vs = wipe σ vs ∧ tt σ2 H2 fun b H3 => if b = true then te σ2 H3 fun y H4 => ∃ acc, H4 D = some (.lst acc) ∧ acc.length < sizeLine ∧ Nx (upd H4 D (.lst (acc ++ [y]))) else Nx H3) := by
  have el := hr.length
  refine lc_J (M := []) (fun l acc H => R2 (Ro D H) ((us.take l.length).map f) acc) (fun _ _ _ _ k h => h.imp fun _ _ q => mo k q) hD (fun _ h => nomatch h) hS (fun h => nomatch h) hl trivial ?_ ?_
  · intro l x r acc H e hacc k _ hDa Qy Qn qy qn
    have hr' := hr
    rw [e] at hr'
    obtain ⟨u, hu, hux⟩ := hr'.at
    have et : us.take (l ++ [x]).length = us.take l.length ++ [u] := by
      rw [List.length_append]
      exact take_at hu
    refine hs u (List.mem_of_getElem? hu) x H acc k (mi k hux) hDa Qy Qn fun y H4 k4 ho => qy _ _ k4 ?_
    rw [et, List.map_append]
    exact R2.snoc (hacc.imp fun _ _ q => mo k4.up q) ho
  · intro acc H hacc k h _
    rw [← el, List.take_length] at hacc
    exact hd acc H k h hacc
end
theorem RUx.mo {D : Addr} {H H' : Hp} {u : Nat × List Nat} {v : V} (k : Kp [D] H H') : RUx D H u v → RUx D H' u v := fun ⟨t, a, e, h1, h2, n⟩ => ⟨t, a, e, k.tup _ _ h1, k.keep _ _ h2 (ne_mem1 n), n⟩
theorem RUx.ru {D : Addr} {H : Hp} {u : Nat × List Nat} {v : V} : RUx D H u v → RU H u v := fun ⟨t, a, e, h1, h2, _⟩ => ⟨t, a, e, h1, h2⟩
theorem R2.app {α : Type} {R : α → V → Prop} : ∀ {us ws : List α} {l m : List V}, R2 R us l → R2 R ws m → R2 R (us ++ ws) (l ++ m)
  | [], _, [], _, _, h => h
  | _ :: _, _, _ :: _, _, ⟨h, q⟩, h' => ⟨h, R2.app q h'⟩
section
variable {K : PySem.W.Frag} {a : Addr} {g : TG} {tt : TT} {te : TE} {vs : List Nat} {σ : L2.St} {H1 : Hp} {D : Addr} {Qd : Hp → Prop}
/-- a comprehension without a test, over a list's items -/
theorem lc_each {α : Type} {us : List α} (i : α → V) (f : α → V) (hD : H1 D = none) (hS : SqL K H1 a (us.map i)) (hl : us.length < 1000000)
    (hs : ∀ u ∈ us, ∀ H, Kp [] H1 H → ∀ (Qy : VK) (Qn : Hp → Prop), (∀ H4, Kp [] H H4 → Qy (f u) H4) →
      g (i u) (wipe σ vs) H fun σ2 H2 => wipe σ2 vs = wipe σ vs ∧ tt σ2 H2 fun b H3 => if b = true then te σ2 H3 Qy else Qn H3)
    (hd : ∀ H, Kp [] H1 H → H D = some (.lst (us.map f)) → Qd H) :
    ∃ W : Nat → Nat → Hp → Prop, (∃ m, W 0 m (upd H1 D (.lst []))) ∧ ∀ i m H, W i m H → ((Itl K a).stop i H ∧ Qd H) ∨ ((Itl K a).go i H ∧ ∃ Nx : Hp → Prop, (∀ H', Nx H' → ∃ m', m' < m ∧ W (i + 1) m' H') ∧
      ∀ x H', (Itl K a).yld i H x H' → g x (wipe σ vs) H' fun σ2 H2 => wipe σ2 vs = wipe σ vs ∧ tt σ2 H2 fun b H3 => if b = true then te σ2 H3 fun y H4 => ∃ acc, H4 D = some (.lst acc) ∧ acc.length < sizeLine ∧ Nx (upd H4 D (.lst (acc ++ [y]))) else Nx H3) := by
  refine lc_J (M := []) (fun l acc _ => acc = (us.take l.length).map f) (fun _ _ _ _ _ h => h) hD (fun _ h => nomatch h) hS (fun h => nomatch h) (by rw [List.length_map]; exact hl) (by simp) ?_ ?_
  · intro l x r acc H e hacc k _ _ Qy Qn qy qn
    have hlt : l.length < us.length := by
      have := congrArg List.length e
      rw [List.length_map, List.length_append, List.length_cons] at this
      omega
    have hx : x = i us[l.length] := by
      have h2 : (us.map i)[l.length]? = some x := by rw [e, List.getElem?_append_right (Nat.le_refl _), Nat.sub_self]; rfl
      rw [List.getElem?_map, List.getElem?_eq_getElem hlt] at h2
      exact (Option.some.inj h2).symm
    subst hx
    have et : us.take (l ++ [i us[l.length]]).length = us.take l.length ++ [us[l.length]] := by
      rw [List.length_append]
      exact take_at (List.getElem?_eq_getElem hlt)
    refine hs us[l.length] (List.getElem_mem hlt) H k Qy Qn fun H4 k4 => qy _ _ k4 ?_
    rw [et, List.map_append, ← hacc] <;> rfl
  · intro acc H hacc k h _
    rw [List.length_map, List.take_length] at hacc
    exact hd H k (by rw [h, hacc])
end
theorem lookup_nd {α : Type} {k : Nat} {x : α} : ∀ {l : List (Nat × α)}, (l.map fun u => u.1).Nodup → (k, x) ∈ l → l.lookup k = some x
  | [], _, h => nomatch h
  | (a, b) :: l, n, h => by
    rw [List.map_cons, List.nodup_cons] at n
    rw [List.lookup_cons]
    rcases List.mem_cons.mp h with z | z
    · cases z
      rw [beq_self_eq_true]
    · have : (k == a) = false := beq_eq_false_iff_ne.mpr fun q => n.1 (by rw [← q]; exact List.mem_map.mpr ⟨_, z, rfl⟩)
      rw [this]
      exact lookup_nd n.2 z
/-- a fun's list in the sites' object -/
theorem StAt.use {H : Hp} {C x dx : Addr} {fl : List (Str × V)} {lo lf du : Addr} {us : Ua} {e : E} {v : V} (h : StAt H C x dx fl lo lf du us e v) {f : Nat} (hf : f ∈ funs e 0) : ∃ u ∈ us, u.1 = f ∧ u.2.2 = usedOf (mU e sc0 0 [] []) f := by
  rw [← h.keys] at hf
  obtain ⟨u, hu, rfl⟩ := List.mem_map.mp hf
  refine ⟨u, hu, rfl, ?_⟩
  rw [← h.us]
  unfold usedOf
  have hh : us.us.lookup u.1 = some u.2.2 := lookup_nd (by rw [Ua.us_keys]; exact h.S.ks) (List.mem_map.mpr ⟨u, hu, rfl⟩)
  rw [hh] <;> rfl
theorem sum_nat (cs : List Nat) : (cs.map fun n : Nat => (n : Int)).sum = ((cs.sum : Nat) : Int) := by
  induction cs with
  | nil => rfl
  | cons c cs ih => rw [List.map_cons, List.sum_cons, List.sum_cons, ih]; omega
/-- what stands behind is shown once -/
theorem rd_seqJ {D : Ends} {σ : L2.St} {H : Hp} {t u : TS} (J : L2.St → Hp → Prop) (hJ : ∀ σ' H', J σ' H' → u D σ' H') (h : ∀ Z : L2.St → Hp → Prop, (∀ σ' H', J σ' H' → Z σ' H') → t { D with nx := Z } σ H) : tSeq t u D σ H := h _ hJ
theorem rd_J {D : Ends} {σ : L2.St} {H : Hp} {t : TS} (J : L2.St → Hp → Prop) (hJ : ∀ σ' H', J σ' H' → D.nx σ' H') (h : ∀ Z : L2.St → Hp → Prop, (∀ σ' H', J σ' H' → Z σ' H') → t { D with nx := Z } σ H) : t D σ H := h D.nx hJ
theorem Run.wf {e : E} {most : Nat} {r : Res} {t : List Ev} (x : Run e most r t) (w : e.Wf []) : r.Wf := by
  obtain ⟨r', t', y, h⟩ := Run.all w most
  rw [(x.det y).1]
  exact h
theorem oc_num {r : Res} {n : Nat} (h : r.oc = .num n) : r = .val (.int n) := by
  cases r with
  | out p => cases h
  | val v => cases v with
    | int m => cases h; rfl
    | clo _ _ _ _ _ => cases h
theorem oc_fn {r : Res} {s : Nat} (h : r.oc = .fn s) : ∃ k b q y, r = .val (.clo k b s q y) := by
  cases r with
  | out p => cases h
  | val v => cases v with
    | int m => cases h
    | clo k b s q y => cases h; exact ⟨_, _, _, _, rfl⟩
def isOut : Oc → Bool
  | .out _ => true
  | _ => false
theorem isOut_in (o : Oc) : inV (.str o.w) [.str "fault", .str "still"] = isOut o := by
  cases o with
  | num n => simp only [Oc.w, isOut]; decide +kernel
  | fn n => simp only [Oc.w, isOut]; decide +kernel
  | out x => cases x <;> simp only [Oc.w, isOut] <;> decide +kernel
end EW

end
section
open PySem L2 EW
local macro_rules | `(tactic| walk_at "ne") => `(tactic| first
  | assumption
  | exact Ne.symm (by assumption)
  | ((with_reducible refine' EW.RowAt.newne ?n ?h); (case n => assumption); (case h => walk_at "hp"))
  | ((with_reducible refine' Ne.symm (EW.RowAt.newne ?n ?h)); (case n => assumption); (case h => walk_at "hp"))
  | ((with_reducible refine' EW.BoxAt.newne ?n ?h); (case n => assumption); (case h => walk_at "hp"))
  | ((with_reducible refine' Ne.symm (EW.BoxAt.newne ?n ?h)); (case n => assumption); (case h => walk_at "hp")))
local macro_rules | `(tactic| walk_at "ns") => `(tactic| first
  | assumption
  | exact EW.RowAt.ne (by assumption)
  | ((with_reducible refine' EW.RowAt.notin ?n ?h); (case n => assumption); (case h => walk_at "hp")))
local macro_rules | `(tactic| walk_at "ni") => `(tactic| first
  | with_reducible exact EW.ne_mem0
  | with_reducible exact EW.dis0
  | ((with_reducible refine' EW.ne_mem1 ?h); (case h => walk_at "ne"))
  | ((with_reducible refine' EW.ne_mem2 ?h ?g); (case h => walk_at "ne"); (case g => walk_at "ne"))
  | ((with_reducible refine' EW.dis1 ?h); (case h => walk_at "ns"))
  | ((with_reducible refine' EW.dis2 ?h ?g); (case h => walk_at "ns"); (case g => walk_at "ns")))
local macro_rules | `(tactic| walk_at "hp") => `(tactic| first
  | assumption
  | ((with_reducible refine' EW.RE.mono (EW.Kp.tup ?k) ?h); (case k => assumption); (case h => walk_at "hp"))
  | ((with_reducible refine' EW.Kp.tup ?k _ _ ?h); (case k => assumption); (case h => walk_at "hp"))
  | ((with_reducible refine' EW.kp_tup ?k ?h); (case k => assumption); (case h => walk_at "hp"))
  | ((with_reducible refine' EW.Kp.keep ?k _ _ ?h ?n); (case k => assumption); (case h => walk_at "hp"); (case n => walk_at "ni"))
  | ((with_reducible refine' EW.Kp.seqL ?k ?h ?n); (case k => assumption); (case h => walk_at "hp"); (case n => walk_at "ni"))
  | ((with_reducible refine' EW.RowAt.keep ?k ?h ?n1 ?n2); (case k => assumption); (case h => walk_at "hp"); (case n1 => walk_at "ni"); (case n2 => walk_at "ni"))
  | ((with_reducible refine' EW.ScAt.keep ?k ?h ?n); (case k => assumption); (case h => walk_at "hp"); (case n => walk_at "ni"))
  | ((with_reducible refine' EW.BoxAt.keep ?k ?h ?n); (case k => assumption); (case h => walk_at "hp"); (case n => walk_at "ni"))
  | ((with_reducible refine' L2.SqL.of ?h); (case h => walk_at "hp"))
  | ((with_reducible refine' L2.SqT.of ?h); (case h => walk_at "hp")))
local macro_rules | `(tactic| walk_at "sb") => `(tactic| first
  | exact EW.sub0
  | exact EW.sub_refl
  | exact EW.sub_l
  | exact EW.sub_r)
local macro_rules | `(tactic| walk_at "kp") => `(tactic| first
  | exact EW.Kp.refl
  | assumption
  | ((with_reducible refine' EW.Kp.trans ?h (EW.Kp.mono ?k ?s)); (case k => assumption); (case s => walk_at "sb"); (case h => walk_at "kp")))
local macro_rules | `(tactic| walk_at "st") => `(tactic| first
  | with_reducible refine rd_seq ?_
  | with_reducible refine rd_next ?_
  | with_reducible refine rd_asg ?_
  | with_reducible refine rd_name ?_
  | with_reducible refine rd_ret ?_
  | with_reducible refine rd_drop ?_
  | ((with_reducible refine' rd_var ?e ?_); (case e => first | with_reducible assumption | exact rfl | assumption))
  | with_reducible refine rd_c ?_
  | with_reducible refine rd_op ?_
  | with_reducible refine rd_I0 ?_
  | with_reducible refine rd_test ?_
  | with_reducible refine rd_tB ?_
  | with_reducible refine rd_not ?_
  | with_reducible refine rd_and ?_
  | with_reducible refine rd_or ?_
  | with_reducible refine rd_ifE ?_
  | with_reducible refine rd_notV ?_
  | with_reducible refine rd_andV ?_
  | with_reducible refine rd_orV ?_
  | with_reducible refine rd_cons ?_
  | with_reducible refine EW.rd_par ?_
  | with_reducible refine EW.rd_par2 ?_
  | with_reducible refine EW.rd_parT ?_
  | with_reducible refine EW.rd_par3 ?_
  | with_reducible refine rd_nil ?_
  | with_reducible refine rd_cb ?_
  | with_reducible refine rd_call ?_
  | with_reducible refine rd_meth ?_
  | with_reducible refine rd_sub ?_
  | with_reducible refine rd_fl ?_
  | with_reducible refine rd_tup ?_
  | with_reducible refine rd_lst ?_
  | with_reducible refine rd_sl ?_
  | with_reducible refine rd_part ?_
  | with_reducible refine rd_partI ?_
  | with_reducible refine rd_nopart ?_
  | with_reducible refine rd_yes ?_
  | with_reducible refine rd_dnewK ?_
  | with_reducible refine rd_dnewT ?_
  | ((with_reducible refine' rd_isT ?h ?_); (case h => walk_at "hp"))
  | with_reducible refine rd_isI ?_
  | with_reducible refine rd_isII ?_
  | with_reducible refine rd_isIB ?_
  | ((with_reducible refine' rd_sum ?h ?_); (case h => walk_at "hp"))
  | ((with_reducible refine' rd_tail ?h ?_); (case h => walk_at "hp"))
  | ((with_reducible refine rd_newO ?_); intro _ _ _ _ _)
  | ((with_reducible refine' rd_lenS ?l ?_); (case l => exact rfl))
  | ((with_reducible refine' rd_ixS ?l ?e ?_); (case l => exact rfl); (case e => first | assumption | with_reducible exact EW.at_head | exact rfl))
  | with_reducible refine EW.ite_dT (by decide +kernel) ?_
  | with_reducible refine EW.ite_dF (by decide +kernel) ?_
  | with_reducible refine EW.ite_nT (by decide +kernel) ?_
  | with_reducible refine EW.ite_nF (by decide +kernel) ?_
  | with_reducible refine EW.iteNF ?_
  | with_reducible refine EW.iteNT ?_
  | with_reducible refine EW.iteEC ?_
  | with_reducible refine EW.iteEN ?_
  | with_reducible refine EW.iteNC ?_
  | with_reducible refine EW.iteNN ?_
  | with_reducible refine EW.rd_kget (by assumption) ?_
  | with_reducible refine EW.rd_kgx (by assumption) _ ?_
  | with_reducible refine EW.rd_ixD (by assumption) _ ?_
  | with_reducible refine EW.rd_chain ?_
  | with_reducible refine L2.iteT ?_
  | with_reducible refine L2.iteF ?_
  | with_reducible refine rd_bm ?_
  | with_reducible refine rd_bm0 ?_
  | with_reducible refine rd_sfld ?_
  | with_reducible refine rd_make ?_
  | ((with_reducible refine' rd_bmL ?s ?_); (case s => walk_at "hp"))
  | ((with_reducible refine' rd_bm0L ?s ?_); (case s => walk_at "hp"))
  | ((with_reducible refine' rd_mex ?s ?l ?_); (case s => walk_at "hp"); (case l => assumption))
  | with_reducible refine rd_lc ?_
  | with_reducible refine rd_for ?_
  | with_reducible refine rd_il ?_
  | with_reducible refine rd_it ?_
  | with_reducible refine rd_ir ?_
  | with_reducible refine rd_dput ?_
  | with_reducible refine rd_dget ?_
  | ((with_reducible refine' rd_ilx ?s ?_); (case s => walk_at "hp"))
  | ((with_reducible refine' rd_itx ?s ?_); (case s => walk_at "hp"))
  | ((with_reducible refine' rd_getK ?s ?e ?_); (case s => walk_at "hp"); (case e => assumption))
  | ((with_reducible refine rd_newT rfl ?_); intro _ _ _ _ _)
  | ((with_reducible refine rd_newL rfl ?_); intro _ _ _ _ _)
  | ((with_reducible refine' rd_taken ?a ?b ?c ?_); (case a => walk_at "hp"); (case b => first | omega | decide); (case c => first | omega | decide); intro _ _ _ _ _)
  | ((with_reducible refine' rd_neE ?a ?b ?_); (case a => walk_at "hp"); (case b => walk_at "hp"))
  | ((with_reducible refine' rd_eqE ?a ?b ?_); (case a => walk_at "hp"); (case b => walk_at "hp"))
  | with_reducible refine rd_eq rfl ?_
  | with_reducible refine rd_ne rfl ?_
  | with_reducible refine rd_bl ?_
  | ((with_reducible refine rd_I ?c ?_); (case c => first | assumption | omega | decide | (exact Or.inl ⟨by omega, by omega⟩) | (exact ⟨by omega, by omega⟩) | (exact ⟨by decide, by decide, by decide⟩)))
  | refine Or.inl ⟨_, rfl, ?_⟩
  | refine Or.inr ⟨_, rfl, ?_⟩
  | ((with_reducible refine' rd_lenL ?s ?_); (case s => walk_at "hp"))
  | ((with_reducible refine' rd_lenT ?s ?_); (case s => walk_at "hp"))
  | ((with_reducible refine' rd_ixL ?s ?e ?_); (case s => walk_at "hp"); (case e => first | assumption | with_reducible exact EW.at_head | exact rfl))
  | ((with_reducible refine' rd_ixT ?s ?e ?_); (case s => walk_at "hp"); (case e => first | assumption | with_reducible exact EW.at_head | exact rfl))
  | ((with_reducible refine' rd_flx ?s ?c ?n ?l ?_); (case s => walk_at "hp"); (case c => assumption); (case n => assumption); (case l => assumption)))
local macro_rules | `(tactic| walk_at "go") => `(tactic| repeat (walk_at "st"))
local macro_rules | `(tactic| walk_at "gi") => `(tactic| repeat (first | with_reducible refine rd_if ?_ | walk_at "st"))
namespace EW
open PySem L2
/-! sorted bindings -/
def RB (H : Hp) (b : Bd) (v : V) : Prop := ∃ t, v = .ref t ∧ H t = some (.tup [nV b.1, nV b.2])
theorem RB.mono {H H' : Hp} (t : Tups H H') {b : Bd} {v : V} (h : RB H b v) : RB H' b v := let ⟨p, e, g⟩ := h; ⟨p, e, t _ _ g⟩
/-- what stands for a pair in the heap -/
def kB (H : Hp) (v : V) : Int × Int := match v with
  | .ref t => match H t with
    | some (.tup [.int i, .int j]) => (i, j)
    | _ => (0, 0)
  | _ => (0, 0)
theorem kB_at {H : Hp} {t : Addr} {i j : Int} (h : H t = some (.tup [.int i, .int j])) : kB H (.ref t) = (i, j) := by unfold kB; simp only [h]
theorem keys_rb {H : Hp} : ∀ {ps : List Bd} {kvs : List (List L2.Key × V)} {bs : List Addr}, kvs.map (·.1) = ps.map kW → IsKeys H kvs bs → R2 (RB H) ps (bs.map V.ref)
  | [], [], _, _, .nil => trivial
  | p :: ps, kv :: kvs, b :: bs, e, .cons h t => by
    rw [List.map_cons, List.map_cons] at e
    have e1 := (List.cons.inj e).1
    have e2 := (List.cons.inj e).2
    refine ⟨⟨b, rfl, ?_⟩, keys_rb e2 t⟩
    rw [h, e1]
    rfl
  | [], _ :: _, _, e, _ => by cases e
  | _ :: _, [], _, e, _ => by cases e
theorem R2.kB {H : Hp} : ∀ {ps : List Bd} {vs : List V}, R2 (RB H) ps vs → vs.map (kB H) = ps.map fun p => ((p.1 : Int), (p.2 : Int))
  | [], [], _ => rfl
  | p :: ps, v :: vs, ⟨⟨t, e, g⟩, r⟩ => by rw [List.map_cons, List.map_cons, R2.kB r, e, kB_at g]
theorem R2.mem {α : Type} {R : α → V → Prop} : ∀ {us : List α} {vs : List V}, R2 R us vs → ∀ v ∈ vs, ∃ u ∈ us, R u v
  | [], [], _, _, h => nomatch h
  | u :: us, v :: vs, ⟨h, r⟩, x, hx => by
    rcases List.mem_cons.mp hx with q | q
    · subst q; exact ⟨u, List.mem_cons_self, h⟩
    · obtain ⟨w, hw, g⟩ := R2.mem r x q; exact ⟨w, List.mem_cons_of_mem _ hw, g⟩
theorem rb_all {H : Hp} {ps : List Bd} : ∀ {vs : List V}, (∀ v ∈ vs, ∃ u ∈ ps, RB H u v) → ∃ qs, R2 (RB H) qs vs
  | [], _ => ⟨[], trivial⟩
  | v :: vs, h => by
    obtain ⟨u, _, g⟩ := h v List.mem_cons_self
    obtain ⟨qs, r⟩ := rb_all fun x hx => h x (List.mem_cons_of_mem _ hx)
    exact ⟨u :: qs, g, r⟩
theorem nn_inj : ∀ {qs ps : List Bd}, (qs.map fun p => ((p.1 : Int), (p.2 : Int))).Perm (ps.map fun p => ((p.1 : Int), (p.2 : Int))) → qs.Perm ps := fun {qs ps} h => by
  have := h.map fun p : Int × Int => (p.1.toNat, p.2.toNat)
  rw [List.map_map, List.map_map] at this
  have e : ((fun p : Int × Int => (p.1.toNat, p.2.toNat)) ∘ fun p : Bd => ((p.1 : Int), (p.2 : Int))) = id := funext fun p => by simp
  rw [e, List.map_id, List.map_id] at this
  exact this
/-- sorted(d), d a dict with bindings as keys -/
theorem rd_sortB {H : Hp} {a : Addr} {kvs : List (List L2.Key × V)} {ps : List Bd} {Q : VK} (h : H a = some (.dT kvs)) (e : kvs.map (·.1) = ps.map kW) (l : kvs.length ≤ 1000000)
    (q : ∀ p ys H', H p = none → Kp [] H H' → H' p = some (.lst ys) → R2 (RB H') (srtB ps) ys → Q (.ref p) H') : rSortDT [.ref a] H Q := by
  refine ⟨a, kvs, kB H, rfl, h, l, fun bs hb b hm => ?_, fun bs ys p hb hs hst hp => ?_⟩
  · obtain ⟨u, _, t, et, g⟩ := (keys_rb e hb).mem (.ref b) (List.mem_map.mpr ⟨b, hm, rfl⟩)
    cases et
    rw [kB_at g]
    exact g
  · have r0 := keys_rb e hb
    have pm := hst.perm
    obtain ⟨qs, rq⟩ := rb_all (H := H) (ps := ps) (vs := ys) fun v hv => r0.mem v (pm.mem_iff.mp hv)
    have e1 := R2.kB r0
    have e2 := R2.kB rq
    have pq : qs.Perm ps := nn_inj (by rw [← e1, ← e2]; exact pm.map _)
    have sq : qs.Pairwise leB := by
      have hs' : (ys.map (kB H)).Pairwise fun x y => SrtO.lexB y x = false := by
        have : ys.Pairwise fun x y => SrtO.lexB (kB H y) (kB H x) = false := hs
        exact List.pairwise_map.mpr this
      rw [e2] at hs'
      have := List.pairwise_map.mp hs'
      refine this.imp fun {x y} hxy => ?_
      have := SrtO.lexB_no.mp hxy
      unfold leB
      simp at this
      omega
    have eq := srtB_uniq pq sq
    subst eq
    have k := Kp.new (M := []) (o := .lst ys) hp
    exact q p ys _ hp k upd_same (rq.imp fun _ _ q => q.mono k.tup)
/-! what lasts tells -/
def RTr (H : Hp) (b : Bd × Option Nat) (v : V) : Prop := ∃ t, v = .ref t ∧ H t = some (.tup [nV b.1.1, nV b.1.2, oV b.2])
theorem RTr.mono {H H' : Hp} (t : Tups H H') {b : Bd × Option Nat} {v : V} (h : RTr H b v) : RTr H' b v := let ⟨p, e, g⟩ := h; ⟨p, e, t _ _ g⟩
theorem RWo.keys {CF : Addr} {H : Hp} : ∀ {ws : List ((Nat × Nat) × Wo)} {ks : List (List L2.Key × V)}, RWo CF H ws ks → ks.map (·.1) = (ws.map (·.1)).map kW
  | [], [], _ => rfl
  | w :: ws, k :: ks, ⟨e, _, r⟩ => by rw [List.map_cons, List.map_cons, List.map_cons, RWo.keys r, e]
def spLasts : Sp := fun vs H Q _ => ∃ (e : E) (v : V) (most : Nat), vs = [v, nV most] ∧ RE H e v ∧ e.Wf [] ∧ e.depth ≤ 7 ∧ e.size ≤ 60 ∧ most ≤ 60 ∧
  ∀ res t (r : Addr) ws H', Run e most res t → H r = none → H' r = some (.lst ws) → R2 (RTr H') (lastRows t) ws → Kp [] H H' → Q (.ref r) H'
theorem rd_lasts {H : Hp} {Q : VK} {EE : XK} {e : E} {v : V} {most : Nat} (h : RE H e v) (w : e.Wf []) (d : e.depth ≤ 7) (z : e.size ≤ 60) (m : most ≤ 60)
    (q : ∀ res t (r : Addr) ws H', Run e most res t → H r = none → H' r = some (.lst ws) → R2 (RTr H') (lastRows t) ws → Kp [] H H' → Q (.ref r) H') : spLasts ([v, nV most] ++ []) H Q EE := ⟨e, v, most, rfl, h, w, d, z, m, q⟩
end EW

end
section
open PySem L2 EW
local macro_rules | `(tactic| walk_at "ne") => `(tactic| first
  | assumption
  | exact Ne.symm (by assumption)
  | ((with_reducible refine' EW.RowAt.newne ?n ?h); (case n => assumption); (case h => walk_at "hp"))
  | ((with_reducible refine' Ne.symm (EW.RowAt.newne ?n ?h)); (case n => assumption); (case h => walk_at "hp"))
  | ((with_reducible refine' EW.BoxAt.newne ?n ?h); (case n => assumption); (case h => walk_at "hp"))
  | ((with_reducible refine' Ne.symm (EW.BoxAt.newne ?n ?h)); (case n => assumption); (case h => walk_at "hp")))
local macro_rules | `(tactic| walk_at "ns") => `(tactic| first
  | assumption
  | exact EW.RowAt.ne (by assumption)
  | ((with_reducible refine' EW.RowAt.notin ?n ?h); (case n => assumption); (case h => walk_at "hp")))
local macro_rules | `(tactic| walk_at "ni") => `(tactic| first
  | with_reducible exact EW.ne_mem0
  | with_reducible exact EW.dis0
  | ((with_reducible refine' EW.ne_mem1 ?h); (case h => walk_at "ne"))
  | ((with_reducible refine' EW.ne_mem2 ?h ?g); (case h => walk_at "ne"); (case g => walk_at "ne"))
  | ((with_reducible refine' EW.dis1 ?h); (case h => walk_at "ns"))
  | ((with_reducible refine' EW.dis2 ?h ?g); (case h => walk_at "ns"); (case g => walk_at "ns")))
local macro_rules | `(tactic| walk_at "hp") => `(tactic| first
  | assumption
  | ((with_reducible refine' EW.RE.mono (EW.Kp.tup ?k) ?h); (case k => assumption); (case h => walk_at "hp"))
  | ((with_reducible refine' EW.Kp.tup ?k _ _ ?h); (case k => assumption); (case h => walk_at "hp"))
  | ((with_reducible refine' EW.kp_tup ?k ?h); (case k => assumption); (case h => walk_at "hp"))
  | ((with_reducible refine' EW.Kp.keep ?k _ _ ?h ?n); (case k => assumption); (case h => walk_at "hp"); (case n => walk_at "ni"))
  | ((with_reducible refine' EW.Kp.seqL ?k ?h ?n); (case k => assumption); (case h => walk_at "hp"); (case n => walk_at "ni"))
  | ((with_reducible refine' EW.RowAt.keep ?k ?h ?n1 ?n2); (case k => assumption); (case h => walk_at "hp"); (case n1 => walk_at "ni"); (case n2 => walk_at "ni"))
  | ((with_reducible refine' EW.ScAt.keep ?k ?h ?n); (case k => assumption); (case h => walk_at "hp"); (case n => walk_at "ni"))
  | ((with_reducible refine' EW.BoxAt.keep ?k ?h ?n); (case k => assumption); (case h => walk_at "hp"); (case n => walk_at "ni"))
  | ((with_reducible refine' L2.SqL.of ?h); (case h => walk_at "hp"))
  | ((with_reducible refine' L2.SqT.of ?h); (case h => walk_at "hp")))
local macro_rules | `(tactic| walk_at "sb") => `(tactic| first
  | exact EW.sub0
  | exact EW.sub_refl
  | exact EW.sub_l
  | exact EW.sub_r)
local macro_rules | `(tactic| walk_at "kp") => `(tactic| first
  | exact EW.Kp.refl
  | assumption
  | ((with_reducible refine' EW.Kp.trans ?h (EW.Kp.mono ?k ?s)); (case k => assumption); (case s => walk_at "sb"); (case h => walk_at "kp")))
local macro_rules | `(tactic| walk_at "st") => `(tactic| first
  | with_reducible refine rd_seq ?_
  | with_reducible refine rd_next ?_
  | with_reducible refine rd_asg ?_
  | with_reducible refine rd_name ?_
  | with_reducible refine rd_ret ?_
  | with_reducible refine rd_drop ?_
  | ((with_reducible refine' rd_var ?e ?_); (case e => first | with_reducible assumption | exact rfl | assumption))
  | with_reducible refine rd_c ?_
  | with_reducible refine rd_op ?_
  | with_reducible refine rd_I0 ?_
  | with_reducible refine rd_test ?_
  | with_reducible refine rd_tB ?_
  | with_reducible refine rd_not ?_
  | with_reducible refine rd_and ?_
  | with_reducible refine rd_or ?_
  | with_reducible refine rd_ifE ?_
  | with_reducible refine rd_notV ?_
  | with_reducible refine rd_andV ?_
  | with_reducible refine rd_orV ?_
  | with_reducible refine rd_cons ?_
  | with_reducible refine EW.rd_par ?_
  | with_reducible refine EW.rd_par2 ?_
  | with_reducible refine EW.rd_parT ?_
  | with_reducible refine EW.rd_par3 ?_
  | with_reducible refine rd_nil ?_
  | with_reducible refine rd_cb ?_
  | with_reducible refine rd_call ?_
  | with_reducible refine rd_meth ?_
  | with_reducible refine rd_sub ?_
  | with_reducible refine rd_fl ?_
  | with_reducible refine rd_tup ?_
  | with_reducible refine rd_lst ?_
  | with_reducible refine rd_sl ?_
  | with_reducible refine rd_part ?_
  | with_reducible refine rd_partI ?_
  | with_reducible refine rd_nopart ?_
  | with_reducible refine rd_yes ?_
  | with_reducible refine rd_dnewK ?_
  | with_reducible refine rd_dnewT ?_
  | ((with_reducible refine' rd_isT ?h ?_); (case h => walk_at "hp"))
  | with_reducible refine rd_isI ?_
  | with_reducible refine rd_isII ?_
  | with_reducible refine rd_isIB ?_
  | ((with_reducible refine' rd_sum ?h ?_); (case h => walk_at "hp"))
  | ((with_reducible refine' rd_tail ?h ?_); (case h => walk_at "hp"))
  | ((with_reducible refine rd_newO ?_); intro _ _ _ _ _)
  | ((with_reducible refine' rd_lenS ?l ?_); (case l => exact rfl))
  | ((with_reducible refine' rd_ixS ?l ?e ?_); (case l => exact rfl); (case e => first | assumption | with_reducible exact EW.at_head | exact rfl))
  | with_reducible refine EW.ite_dT (by decide +kernel) ?_
  | with_reducible refine EW.ite_dF (by decide +kernel) ?_
  | with_reducible refine EW.ite_nT (by decide +kernel) ?_
  | with_reducible refine EW.ite_nF (by decide +kernel) ?_
  | with_reducible refine EW.iteNF ?_
  | with_reducible refine EW.iteNT ?_
  | with_reducible refine EW.iteEC ?_
  | with_reducible refine EW.iteEN ?_
  | with_reducible refine EW.iteNC ?_
  | with_reducible refine EW.iteNN ?_
  | with_reducible refine EW.rd_kget (by assumption) ?_
  | with_reducible refine EW.rd_kgx (by assumption) _ ?_
  | with_reducible refine EW.rd_ixD (by assumption) _ ?_
  | with_reducible refine EW.rd_chain ?_
  | with_reducible refine L2.iteT ?_
  | with_reducible refine L2.iteF ?_
  | with_reducible refine rd_bm ?_
  | with_reducible refine rd_bm0 ?_
  | with_reducible refine rd_sfld ?_
  | with_reducible refine rd_make ?_
  | ((with_reducible refine' rd_bmL ?s ?_); (case s => walk_at "hp"))
  | ((with_reducible refine' rd_bm0L ?s ?_); (case s => walk_at "hp"))
  | ((with_reducible refine' rd_mex ?s ?l ?_); (case s => walk_at "hp"); (case l => assumption))
  | with_reducible refine rd_lc ?_
  | with_reducible refine rd_for ?_
  | with_reducible refine rd_il ?_
  | with_reducible refine rd_it ?_
  | with_reducible refine rd_ir ?_
  | with_reducible refine rd_dput ?_
  | with_reducible refine rd_dget ?_
  | ((with_reducible refine' rd_ilx ?s ?_); (case s => walk_at "hp"))
  | ((with_reducible refine' rd_itx ?s ?_); (case s => walk_at "hp"))
  | ((with_reducible refine' rd_getK ?s ?e ?_); (case s => walk_at "hp"); (case e => assumption))
  | ((with_reducible refine rd_newT rfl ?_); intro _ _ _ _ _)
  | ((with_reducible refine rd_newL rfl ?_); intro _ _ _ _ _)
  | ((with_reducible refine' rd_taken ?a ?b ?c ?_); (case a => walk_at "hp"); (case b => first | omega | decide); (case c => first | omega | decide); intro _ _ _ _ _)
  | ((with_reducible refine' rd_neE ?a ?b ?_); (case a => walk_at "hp"); (case b => walk_at "hp"))
  | ((with_reducible refine' rd_eqE ?a ?b ?_); (case a => walk_at "hp"); (case b => walk_at "hp"))
  | with_reducible refine rd_eq rfl ?_
  | with_reducible refine rd_ne rfl ?_
  | with_reducible refine rd_bl ?_
  | ((with_reducible refine rd_I ?c ?_); (case c => first | assumption | omega | decide | (exact Or.inl ⟨by omega, by omega⟩) | (exact ⟨by omega, by omega⟩) | (exact ⟨by decide, by decide, by decide⟩)))
  | refine Or.inl ⟨_, rfl, ?_⟩
  | refine Or.inr ⟨_, rfl, ?_⟩
  | ((with_reducible refine' rd_lenL ?s ?_); (case s => walk_at "hp"))
  | ((with_reducible refine' rd_lenT ?s ?_); (case s => walk_at "hp"))
  | ((with_reducible refine' rd_ixL ?s ?e ?_); (case s => walk_at "hp"); (case e => first | assumption | with_reducible exact EW.at_head | exact rfl))
  | ((with_reducible refine' rd_ixT ?s ?e ?_); (case s => walk_at "hp"); (case e => first | assumption | with_reducible exact EW.at_head | exact rfl))
  | ((with_reducible refine' rd_flx ?s ?c ?n ?l ?_); (case s => walk_at "hp"); (case c => assumption); (case n => assumption); (case l => assumption)))
local macro_rules | `(tactic| walk_at "go") => `(tactic| repeat (walk_at "st"))
local macro_rules | `(tactic| walk_at "gi") => `(tactic| repeat (first | with_reducible refine rd_if ?_ | walk_at "st"))
namespace EW
open PySem L2
section
variable {X : Cx} {K : PySem.W.Frag}
theorem w_piEnum {e : Expr} {ta : TA} {p pos tpos : Pos} {elts : List Expr} {kk : Nat} (hK : X.K = K) (hg : Gl X "enumerate") (hm : X.mg "enumerate" = none) (ha : PA X [e] ta) (hs : starEach [e] X.env = [(false, eval e X.env)] := by rfl) :
    PI X (.Tuple elts kk tpos) (.Call (.Name "enumerate" p) [e] [] pos) (iEnum K ta) := by subst hK; exact pi_enum hg hm ha hs
def IEN (K : PySem.W.Frag) (vs : List V) (H : Hp) (R : It → Hp → Prop) : Prop := ∃ a xs, vs = [.ref a] ∧ SqL K H a xs ∧ R (Ite K a) H
theorem rd_ien {ta : TA} {σ : L2.St} {H : Hp} {R : It → Hp → Prop} (h : ta σ H fun vs H1 => IEN K vs H1 R) : iEnum K ta σ H R := h
theorem rd_ienx {H : Hp} {a : Addr} {xs : List V} {R : It → Hp → Prop} (s : SqL K H a xs) (h : R (Ite K a) H) : IEN K [.ref a] H R := ⟨a, xs, rfl, s, h⟩
def DG1 (ty : TE) (σ : L2.St) (Q : VK) (x : V) (H : Hp) : Prop := ∃ a, x = .ref a ∧ IsD H a ∧ ty σ H fun y H2 => ∃ o, DGet H2 a y o ∧ Q (o.getD .non) H2
theorem rd_dget1 {td ty : TE} {σ : L2.St} {H : Hp} {Q : VK} (h : td σ H fun x H1 => DG1 ty σ Q x H1) : tDGet1 td ty σ H Q := h
theorem rd_dg1T {ty : TE} {σ : L2.St} {H : Hp} {Q : VK} {a : Addr} {kvs : List (List L2.Key × V)} (s : H a = some (.dT kvs)) (h : ty σ H fun y H2 => ∃ o, DGet H2 a y o ∧ Q (o.getD .non) H2) : DG1 ty σ Q (.ref a) H := ⟨a, rfl, .inr ⟨kvs, Rd.of s⟩, h⟩
theorem rd_dgT {H : Hp} {a b : Addr} {kvs : List (List L2.Key × V)} {ks : List L2.Key} {Q : V → Prop} (s : H a = some (.dT kvs)) (sb : H b = some (.tup (ks.map kV))) (h : Q ((valV kvs ks).getD .non)) : ∃ o, DGet H a (.ref b) o ∧ Q (o.getD .non) := ⟨valV kvs ks, DGet.t s sb, h⟩
end
theorem oV_get (o : Option Nat) : (o.map nV).getD .non = oV o := by cases o <;> rfl
section
variable {P : Program} {w : World} {K : PySem.W.Frag} {mg : Str → Option Value} {base : Heap} {a_SHAPES C_Sites C_Run C_Function : Addr}
theorem ok_lasts {f : Addr} {fd : FuncData} (A : At K mg "lasts" s_lasts ["program", "most"] f fd) (T : TxtR K w mg a_SHAPES C_Sites C_Run C_Function) (c_run_of : Has P w K mg base "run_of" ["program", "most"] 13 (spRunOf C_Run C_Function C_Sites)) : Has P w K mg base "lasts" ["program", "most"] 14 spLasts := by
  obtain ⟨f_run_of, fd_run_of, G_run_of, m_run_of, k_run_of, b_run_of⟩ := c_run_of
  refine ⟨f, fd, A.F.ok sc_lasts (fun vs H Q EE h => ?_) (fun cdv A outer s H vs Q EE hr h => ?_), A.m, A.F.kp, A.b⟩
  · obtain ⟨_, _, _, rfl, _⟩ := h
    rfl
  obtain ⟨e, v, most, rfl, hre, hw, hd, hz, hm, q⟩ := h
  have hu := hu_of hr
  have cl := T.cl_Run
  have n1 := T.n_r "looks" (by simp)
  have n2 := T.n_r "worths" (by simp)
  refine ⟨_, (pss_cons (ps_set (i := 2) sc_lasts.nd rfl (Or.inl rfl) (pe_call G_run_of (hr.mono (by first | decide | omega)) (by rfl) m_run_of k_run_of b_run_of .nil pass0 (pa_cons (pv 0) (pa_cons (pv 1) pa_nil))))
      (pss_cons (ps_set (i := 3) sc_lasts.nd rfl (Or.inr rfl) pe_dnewT)
      (pss_cons (ps_for PassesOwn.never rfl (w_piEnum (K := K) rfl (by rfl) T.z_enumerate (pa_cons (w_fld (K := K) rfl (pv 2) rfl) pa_nil)) (w_pgT (K := K) rfl rfl (pgs_cons (pg_name (i := 4) sc_lasts.nd rfl (Or.inl rfl)) (pgs_cons (pg_name (i := 5) sc_lasts.nd rfl (Or.inl rfl)) pgs_nil)) rfl rfl)
        (pss_one (ps_dput hu (pv 3) (pe_ix (w_ixT (K := K) rfl) (pv 5) pe_int (fun _ _ => rfl)) (pv 4) rfl)))
      (pss_one (ps_ret (pe_lc (own := [("binding", 6)]) (g := (gName 6)) (tt := tYes) rfl sc_lasts.nd (w_piL (K := K) rfl (pe_callB (cr_sortDT rfl) (by rfl) T.z_sorted (by decide +kernel) (pa_cons (w_fld (K := K) rfl (pv 2) rfl) pa_nil))) (blkOk_by (own := [("binding", 6)]) (N := N_lasts) (sc := defScope s_lasts) (by decide +kernel)) (fun _ _ _ _ _ => (pg_name (i := 6) sc_lasts.nd rfl (Or.inl rfl))) (fun _ _ _ _ _ => pts_nil) (fun _ _ _ _ _ => (pe_op (w_catT (K := K) rfl) (pv 6) (pe_tup (pa_cons (pe_dget1 hu (pv 3) (pv 6) ⟨rfl, rfl, rfl, rfl⟩) pa_nil)))))))))), ?_⟩
  refine at_st (σ' := [some v, some (nV most), none, none, none, none, none]) rfl ?_
  walk_at "go"
  refine ⟨e, v, most, rfl, hre, hw, hd, hz, hm, fun A' res t ov rv kvs ls dx fl lo lf du us v' H1 D k1 => ?_⟩
  have hob := D.fin.ob
  have hhl := D.fin.hl
  have hhw := D.fin.hw
  have e1 : (runG A' (most - nact t) ov rv).lookup ("looks" : Str) = some (.ref A'.ll) := rfl
  have e2 : (runG A' (most - nact t) ov rv).lookup ("worths" : Str) = some (.ref A'.dw) := rfl
  have hll := D.fin.rl.length
  have hsm := D.run.small hz hm
  walk_at "go"
  rename_i kn H2 nk k2 h2
  refine rd_ien ?_
  walk_at "go"
  refine rd_ienx (SqL.of (k2.keep _ _ hhl ne_mem0)) ?_
  refine for_it (walk_enum (xs := ls)) (fun i σ' H' => ∃ (v4 v5 : Option V) (kk : List (List L2.Key × V)), σ' = [some v, some (nV most), some (.ref A'.p), some (.ref kn), v4, v5, none] ∧ H' kn = some (.dT kk) ∧ kk.length ≤ i ∧ Kp [] H1 H' ∧ ∀ b : Bd, valV kk (kW b) = (lastL (looksT t |>.take i) b).map nV)
    ⟨none, none, [], rfl, h2, Nat.le_refl _, k2, fun b => rfl⟩ ?_ ?_ ?_
  · rintro i _ H' _ ⟨v4, v5, kk, rfl, _, _, k3, _⟩
    exact SqL.of (k3.keep _ _ hhl ne_mem0)
  · rintro i x _ H' H'' hi ⟨v4, v5, kk, rfl, h3, l3, k3, hv⟩ ⟨T', xi, xl, rfl, nT, rfl, hxi, hxl⟩
    cases hxi
    have hrl := D.fin.rl
    rw [log_lk] at hrl
    have hlt : i < (looksT t).length := by rw [hrl.length]; exact hi
    have hr2 : R2 (RL H1) (looksT t) (ls.take i ++ xl :: ls.drop (i + 1)) := by
      have : ls = ls.take i ++ xl :: ls.drop (i + 1) := by
        have hx := List.getElem?_eq_some_iff.mp hxl
        obtain ⟨h5, h6⟩ := hx
        rw [← h6, List.getElem_cons_drop, List.take_append_drop]
      rw [← this]; exact hrl
    obtain ⟨u, hu1, pt, pb, rfl, g1, g2⟩ := hr2.at
    rw [List.length_take, Nat.min_eq_left (by omega)] at hu1
    refine new_o (Q := fun Hx => gTup K _ _ _ _ Hx _) nT fun H4 k4 h4 => ?_
    refine ⟨T', [.int (i : Nat), .ref pt], rfl, SqT.of h4, rfl, ?_⟩
    refine ⟨_, _, rfl, rd_name ?_⟩
    refine ⟨_, _, rfl, rd_name ?_⟩
    have g1' := k4.tup _ _ (k3.tup _ _ g1)
    have g2' := k4.tup _ _ (k3.tup _ _ g2)
    have h3' := k4.keep _ _ h3 ne_mem0
    refine ⟨rfl, ?_⟩
    walk_at "go"
    refine rd_putT (ks := kW u.2) h3' g2' (by omega) fun H5 k5 h5 => ?_
    refine ⟨_, _, _, rfl, h5, ?_, (k3.trans k4).chg nk k5, fun b => ?_⟩
    · exact Nat.le_trans (length_putK _ _ _) (Nat.succ_le_succ l3)
    · rw [valV_put, take_at hu1, lastL_snoc, hv b, List.length_take, Nat.min_eq_left (by omega)]
      by_cases c : u.2 = b
      · rw [if_pos c, if_pos (by rw [c])]; rfl
      · rw [if_neg c, if_neg (fun z => c (kW_inj z).symm)]
  · rintro _ H' ⟨v4, v5, kk, rfl, h3, l3, k3, hv⟩
    have D3 := D.keep0 k3
    have hob3 := D3.fin.ob
    have hhw3 := D3.fin.hw
    have hrw3 := D3.fin.rw_
    have hwl := hrw3.length
    have hv' : ∀ b : Bd, valV kk (kW b) = (lastL (looksT t) b).map nV := fun b => by
      have := hv b
      rw [← hll, log_lk, List.take_length] at this
      exact this
    walk_at "go"
    refine rd_sortB (ps := (Lg0.evs t).wo.map (·.1)) hhw3 hrw3.keys (by omega) fun ps ys H4 nps k4 h4 ry => ?_
    walk_at "go"
    intro D' hD
    have ly := ry.length
    have lps : (srtB ((Lg0.evs t).wo.map (·.1))).length = (Lg0.evs t).wo.length := by rw [(srtB_perm _).length_eq, List.length_map]
    refine lc_rel (fun H => RB H) (fun _ H => RTr H) (fun b => (b, lastL (looksT t) b)) (fun k h => h.mono k.tup) (fun k h => h.mono k.tup) hD (SqL.of h4) (by omega) ry ?_ ?_
    · rintro b hb x H5 zs k5 ⟨pb, rfl, g⟩ hDz Qy Qn qy
      have h3' := k5.keep _ _ (k4.keep _ _ h3 ne_mem0) ne_mem0
      refine rd_name ⟨rfl, rd_yes ?_⟩
      walk_at "go"
      refine rd_dget1 ?_
      walk_at "go"
      refine rd_dg1T h3' ?_
      walk_at "go"
      refine ⟨valV kk (kW b), DGet.t h3' g, ?_⟩
      rw [hv', oV_get]
      walk_at "go"
      rename_i pc H6 nc k6 h6
      refine rd_catA (k6.tup _ _ g) h6 (List.cons_ne_nil _ _) (List.cons_ne_nil _ _) (by show 2 + 1 ≤ 1000000; decide) ?_
      refine rd_newO fun pd H7 nd k7 h7 => ?_
      exact qy _ _ (k6.trans k7) ⟨pd, rfl, h7⟩
    · intro zs H5 k5 h5 rz
      refine q res t D' zs H5 D.run ((k1.trans (k3.trans k4)).free hD) h5 ?_ (k1.trans (k3.trans (k4.trans k5)))
      unfold lastRows
      rw [← log_wo]
      exact rz
end
end EW

end
section
open PySem L2 EW
local macro_rules | `(tactic| walk_at "ne") => `(tactic| first
  | assumption
  | exact Ne.symm (by assumption)
  | ((with_reducible refine' EW.RowAt.newne ?n ?h); (case n => assumption); (case h => walk_at "hp"))
  | ((with_reducible refine' Ne.symm (EW.RowAt.newne ?n ?h)); (case n => assumption); (case h => walk_at "hp"))
  | ((with_reducible refine' EW.BoxAt.newne ?n ?h); (case n => assumption); (case h => walk_at "hp"))
  | ((with_reducible refine' Ne.symm (EW.BoxAt.newne ?n ?h)); (case n => assumption); (case h => walk_at "hp")))
local macro_rules | `(tactic| walk_at "ns") => `(tactic| first
  | assumption
  | exact EW.RowAt.ne (by assumption)
  | ((with_reducible refine' EW.RowAt.notin ?n ?h); (case n => assumption); (case h => walk_at "hp")))
local macro_rules | `(tactic| walk_at "ni") => `(tactic| first
  | with_reducible exact EW.ne_mem0
  | with_reducible exact EW.dis0
  | ((with_reducible refine' EW.ne_mem1 ?h); (case h => walk_at "ne"))
  | ((with_reducible refine' EW.ne_mem2 ?h ?g); (case h => walk_at "ne"); (case g => walk_at "ne"))
  | ((with_reducible refine' EW.dis1 ?h); (case h => walk_at "ns"))
  | ((with_reducible refine' EW.dis2 ?h ?g); (case h => walk_at "ns"); (case g => walk_at "ns")))
local macro_rules | `(tactic| walk_at "hp") => `(tactic| first
  | assumption
  | ((with_reducible refine' EW.RE.mono (EW.Kp.tup ?k) ?h); (case k => assumption); (case h => walk_at "hp"))
  | ((with_reducible refine' EW.Kp.tup ?k _ _ ?h); (case k => assumption); (case h => walk_at "hp"))
  | ((with_reducible refine' EW.kp_tup ?k ?h); (case k => assumption); (case h => walk_at "hp"))
  | ((with_reducible refine' EW.Kp.keep ?k _ _ ?h ?n); (case k => assumption); (case h => walk_at "hp"); (case n => walk_at "ni"))
  | ((with_reducible refine' EW.Kp.seqL ?k ?h ?n); (case k => assumption); (case h => walk_at "hp"); (case n => walk_at "ni"))
  | ((with_reducible refine' EW.RowAt.keep ?k ?h ?n1 ?n2); (case k => assumption); (case h => walk_at "hp"); (case n1 => walk_at "ni"); (case n2 => walk_at "ni"))
  | ((with_reducible refine' EW.ScAt.keep ?k ?h ?n); (case k => assumption); (case h => walk_at "hp"); (case n => walk_at "ni"))
  | ((with_reducible refine' EW.BoxAt.keep ?k ?h ?n); (case k => assumption); (case h => walk_at "hp"); (case n => walk_at "ni"))
  | ((with_reducible refine' L2.SqL.of ?h); (case h => walk_at "hp"))
  | ((with_reducible refine' L2.SqT.of ?h); (case h => walk_at "hp")))
local macro_rules | `(tactic| walk_at "sb") => `(tactic| first
  | exact EW.sub0
  | exact EW.sub_refl
  | exact EW.sub_l
  | exact EW.sub_r)
local macro_rules | `(tactic| walk_at "kp") => `(tactic| first
  | exact EW.Kp.refl
  | assumption
  | ((with_reducible refine' EW.Kp.trans ?h (EW.Kp.mono ?k ?s)); (case k => assumption); (case s => walk_at "sb"); (case h => walk_at "kp")))
local macro_rules | `(tactic| walk_at "st") => `(tactic| first
  | with_reducible refine rd_seq ?_
  | with_reducible refine rd_next ?_
  | with_reducible refine rd_asg ?_
  | with_reducible refine rd_name ?_
  | with_reducible refine rd_ret ?_
  | with_reducible refine rd_drop ?_
  | ((with_reducible refine' rd_var ?e ?_); (case e => first | with_reducible assumption | exact rfl | assumption))
  | with_reducible refine rd_c ?_
  | with_reducible refine rd_op ?_
  | with_reducible refine rd_I0 ?_
  | with_reducible refine rd_test ?_
  | with_reducible refine rd_tB ?_
  | with_reducible refine rd_not ?_
  | with_reducible refine rd_and ?_
  | with_reducible refine rd_or ?_
  | with_reducible refine rd_ifE ?_
  | with_reducible refine rd_notV ?_
  | with_reducible refine rd_andV ?_
  | with_reducible refine rd_orV ?_
  | with_reducible refine rd_cons ?_
  | with_reducible refine EW.rd_par ?_
  | with_reducible refine EW.rd_par2 ?_
  | with_reducible refine EW.rd_parT ?_
  | with_reducible refine EW.rd_par3 ?_
  | with_reducible refine rd_nil ?_
  | with_reducible refine rd_cb ?_
  | with_reducible refine rd_call ?_
  | with_reducible refine rd_meth ?_
  | with_reducible refine rd_sub ?_
  | with_reducible refine rd_fl ?_
  | with_reducible refine rd_tup ?_
  | with_reducible refine rd_lst ?_
  | with_reducible refine rd_sl ?_
  | with_reducible refine rd_part ?_
  | with_reducible refine rd_partI ?_
  | with_reducible refine rd_nopart ?_
  | with_reducible refine rd_yes ?_
  | with_reducible refine rd_dnewK ?_
  | with_reducible refine rd_dnewT ?_
  | ((with_reducible refine' rd_isT ?h ?_); (case h => walk_at "hp"))
  | with_reducible refine rd_isI ?_
  | with_reducible refine rd_isII ?_
  | with_reducible refine rd_isIB ?_
  | ((with_reducible refine' rd_sum ?h ?_); (case h => walk_at "hp"))
  | ((with_reducible refine' rd_tail ?h ?_); (case h => walk_at "hp"))
  | ((with_reducible refine rd_newO ?_); intro _ _ _ _ _)
  | ((with_reducible refine' rd_lenS ?l ?_); (case l => exact rfl))
  | ((with_reducible refine' rd_ixS ?l ?e ?_); (case l => exact rfl); (case e => first | assumption | with_reducible exact EW.at_head | exact rfl))
  | with_reducible refine EW.ite_dT (by decide +kernel) ?_
  | with_reducible refine EW.ite_dF (by decide +kernel) ?_
  | with_reducible refine EW.ite_nT (by decide +kernel) ?_
  | with_reducible refine EW.ite_nF (by decide +kernel) ?_
  | with_reducible refine EW.iteNF ?_
  | with_reducible refine EW.iteNT ?_
  | with_reducible refine EW.iteEC ?_
  | with_reducible refine EW.iteEN ?_
  | with_reducible refine EW.iteNC ?_
  | with_reducible refine EW.iteNN ?_
  | with_reducible refine EW.rd_kget (by assumption) ?_
  | with_reducible refine EW.rd_kgx (by assumption) _ ?_
  | with_reducible refine EW.rd_ixD (by assumption) _ ?_
  | with_reducible refine EW.rd_chain ?_
  | with_reducible refine L2.iteT ?_
  | with_reducible refine L2.iteF ?_
  | with_reducible refine rd_bm ?_
  | with_reducible refine rd_bm0 ?_
  | with_reducible refine rd_sfld ?_
  | with_reducible refine rd_make ?_
  | ((with_reducible refine' rd_bmL ?s ?_); (case s => walk_at "hp"))
  | ((with_reducible refine' rd_bm0L ?s ?_); (case s => walk_at "hp"))
  | ((with_reducible refine' rd_mex ?s ?l ?_); (case s => walk_at "hp"); (case l => assumption))
  | with_reducible refine rd_lc ?_
  | with_reducible refine rd_for ?_
  | with_reducible refine rd_il ?_
  | with_reducible refine rd_it ?_
  | with_reducible refine rd_ir ?_
  | with_reducible refine rd_dput ?_
  | with_reducible refine rd_dget ?_
  | ((with_reducible refine' rd_ilx ?s ?_); (case s => walk_at "hp"))
  | ((with_reducible refine' rd_itx ?s ?_); (case s => walk_at "hp"))
  | ((with_reducible refine' rd_getK ?s ?e ?_); (case s => walk_at "hp"); (case e => assumption))
  | ((with_reducible refine rd_newT rfl ?_); intro _ _ _ _ _)
  | ((with_reducible refine rd_newL rfl ?_); intro _ _ _ _ _)
  | ((with_reducible refine' rd_taken ?a ?b ?c ?_); (case a => walk_at "hp"); (case b => first | omega | decide); (case c => first | omega | decide); intro _ _ _ _ _)
  | ((with_reducible refine' rd_neE ?a ?b ?_); (case a => walk_at "hp"); (case b => walk_at "hp"))
  | ((with_reducible refine' rd_eqE ?a ?b ?_); (case a => walk_at "hp"); (case b => walk_at "hp"))
  | with_reducible refine rd_eq rfl ?_
  | with_reducible refine rd_ne rfl ?_
  | with_reducible refine rd_bl ?_
  | ((with_reducible refine rd_I ?c ?_); (case c => first | assumption | omega | decide | (exact Or.inl ⟨by omega, by omega⟩) | (exact ⟨by omega, by omega⟩) | (exact ⟨by decide, by decide, by decide⟩)))
  | refine Or.inl ⟨_, rfl, ?_⟩
  | refine Or.inr ⟨_, rfl, ?_⟩
  | ((with_reducible refine' rd_lenL ?s ?_); (case s => walk_at "hp"))
  | ((with_reducible refine' rd_lenT ?s ?_); (case s => walk_at "hp"))
  | ((with_reducible refine' rd_ixL ?s ?e ?_); (case s => walk_at "hp"); (case e => first | assumption | with_reducible exact EW.at_head | exact rfl))
  | ((with_reducible refine' rd_ixT ?s ?e ?_); (case s => walk_at "hp"); (case e => first | assumption | with_reducible exact EW.at_head | exact rfl))
  | ((with_reducible refine' rd_flx ?s ?c ?n ?l ?_); (case s => walk_at "hp"); (case c => assumption); (case n => assumption); (case l => assumption)))
local macro_rules | `(tactic| walk_at "go") => `(tactic| repeat (walk_at "st"))
local macro_rules | `(tactic| walk_at "gi") => `(tactic| repeat (first | with_reducible refine rd_if ?_ | walk_at "st"))
namespace EW
open PySem L2
/-- what the top has for holding.py -/
structure TxtH (K : PySem.W.Frag) (w : World) (mg : Str → Option Value) (sh C CR CF aw : Addr) : Prop extends TxtC K w mg sh C CR CF aw where
  kN : PySem.W.kitOne K (.type "NoneType") (.ref CF) = some false
theorem rd_isFN {K : PySem.W.Frag} {H : Hp} {C : Addr} {Q : VK} (k : PySem.W.kitOne K (.type "NoneType") (.ref C) = some false) (q : Q (.bl false) H) : rIsi K [.non, .ref C] H Q :=
  ⟨_, _, .type "NoneType", .ref C, false, rfl, .own _, .base .non, k, q⟩
/-- held of a run that comes to no function: nothing -/
def spHeld0 (CR CF CS : Addr) : Sp := fun vs H Q _ => ∃ (y : Way) (most : Nat) (e : E) (A : RA) (res : Res) (t : List Ev) (ov rv : V) (kvs : List (List Key × V)) (ls : List V) (dx : Addr) (fl : List (Str × V)) (lo lf du : Addr) (us : Ua) (v : V),
  vs = [.ref A.p, y.v] ∧ DoneAt CR CF CS H e most A res t ov rv kvs ls dx fl lo lf du us v ∧ (∀ s, res.oc ≠ .fn s) ∧ ∀ (r : Addr) H', H r = none → H' r = some (.lst []) → Kp [] H H' → Q (.ref r) H'
def spKept0 : Sp := fun vs H Q _ => ∃ (e : E) (v : V) (y : Way) (most : Nat), vs = [v, y.v, nV most] ∧ RE H e v ∧ e.Wf [] ∧ e.depth ≤ 7 ∧ e.size ≤ 60 ∧ most ≤ 60 ∧ (∀ res t, Run e most res t → ∀ s, res.oc ≠ .fn s) ∧
  ∀ (r : Addr) H', H r = none → H' r = some (.lst []) → Kp [] H H' → Q (.ref r) H'
theorem rd_kept0 {H : Hp} {Q : VK} {EE : XK} {e : E} {v : V} (y : Way) {most : Nat} (h : RE H e v) (w : e.Wf []) (d : e.depth ≤ 7) (z : e.size ≤ 60) (m : most ≤ 60) (n : ∀ res t, Run e most res t → ∀ s, res.oc ≠ .fn s)
    (q : ∀ (r : Addr) H', H r = none → H' r = some (.lst []) → Kp [] H H' → Q (.ref r) H') : spKept0 ([v, y.v, nV most] ++ []) H Q EE := ⟨e, v, y, most, rfl, h, w, d, z, m, n, q⟩
section
variable {P : Program} {w : World} {K : PySem.W.Frag} {mg : Str → Option Value} {base : Heap} {a_SHAPES C_Sites C_Run C_Function a_WAYS : Addr}
def spNone : Sp := fun _ _ _ _ => False
theorem ok_straight0 {f : Addr} {fd : FuncData} (A : At K mg "straight" s_straight ["run", "way", "function"] f fd) (T : TxtB mg) : Has P w K mg base "straight" ["run", "way", "function"] 3 spNone := by
  exact ⟨f, fd, none_left fun _ _ _ _ h => h.elim, A.m, A.F.kp, A.b⟩
theorem ok_held0 {f : Addr} {fd : FuncData} (A : At K mg "held" s_held ["run", "way"] f fd) (T : TxtH K w mg a_SHAPES C_Sites C_Run C_Function a_WAYS) (c_straight : Has P w K mg base "straight" ["run", "way", "function"] 3 spNone) :
    Has P w K mg base "held" ["run", "way"] 4 (spHeld0 C_Run C_Function C_Sites) := by
  obtain ⟨f_straight, fd_straight, G_straight, m_straight, k_straight, b_straight⟩ := c_straight
  refine ⟨f, fd, A.F.ok sc_held (fun vs H Q EE h => ?_) (fun cdv A outer s H vs Q EE hr h => ?_), A.m, A.F.kp, A.b⟩
  · obtain ⟨_, _, _, _, _, _, _, _, _, _, _, _, _, _, _, _, _, rfl, _⟩ := h
    rfl
  obtain ⟨y, most, e, A', res, t, ov, rv, kvs, ls, dx, fl, lo, lf, du, us, v, rfl, D, hno, q⟩ := h
  have hu := hu_of hr
  have cl := T.cl_Run
  have n1 := T.n_r "result" (by simp)
  have n2 := T.n_r "worths" (by simp)
  have hob := D.fin.ob
  have e1 : (runG A' (most - nact t) ov rv).lookup ("result" : Str) = some rv := rfl
  refine ⟨_, (pss_cons (ps_set (i := 2) sc_held.nd rfl (Or.inl rfl) pe_dnewT)
      (pss_cons (ps_set (i := 3) sc_held.nd rfl (Or.inl rfl) (pe_ifExp (pt_val (pe_callB (w_isi (K := K) rfl) (by rfl) T.z_isinstance (by decide +kernel) (pa_cons (w_fld (K := K) rfl (pv 0) rfl) (pa_cons (pe_glob (v := .ref C_Function) (by rfl) T.m_Function rfl) pa_nil)))) (pe_lst (pa_cons (w_fld (K := K) rfl (pv 0) rfl) pa_nil)) (pe_lst pa_nil)))
      (pss_cons (ps_while PassesOwn.never (pt_cmpR (op_neE hr.units0) (pv 3) (pe_lst pa_nil) (nomark _))
        (pss_one (ps_for PassesOwn.never rfl (w_piL (K := K) rfl (pe_call G_straight (hr.mono (by first | decide | omega)) (by rfl) m_straight k_straight b_straight .nil pass0 (pa_cons (pv 0) (pa_cons (pv 1) (pa_cons (pe_bm0 PySem.F.plainAttrs_list PySem.F.slot_list_pop PySem.F.type_list_pop mt_pop (pv 3)) pa_nil))))) (pg_name (i := 4) sc_held.nd rfl (Or.inl rfl))
          (pss_one (ps_if (pt_cmp (pc_dnotin hu (pv 4) (pv 2)))
            (pss_cons (ps_dput hu (pv 2) (pv 4) pe_bl rfl)
            (pss_one (ps_if (pt_val (pe_callB (w_isi (K := K) rfl) (by rfl) T.z_isinstance (by decide +kernel) (pa_cons (pe_dget hu (w_fld (K := K) rfl (pv 0) rfl) (pv 4) (fun _ _ => rfl)) (pa_cons (pe_glob (v := .ref C_Function) (by rfl) T.m_Function rfl) pa_nil))))
              (pss_one (ps_expr (pe_bm PySem.F.plainAttrs_list PySem.F.slot_list_append PySem.F.type_list_append mt_append (pv 3) (pa_cons (pe_dget hu (w_fld (K := K) rfl (pv 0) rfl) (pv 4) (fun _ _ => rfl)) pa_nil))))
              pss_nil)))
            pss_nil)))))
      (pss_one (ps_ret (pe_callB (cr_sortDT rfl) (by rfl) T.z_sorted (by decide +kernel) (pa_cons (pv 2) pa_nil))))))), ?_⟩
  refine at_st (σ' := [some (.ref A'.p), some y.v, none, none, none]) rfl ?_
  walk_at "go"
  rename_i kn H1 nk k1 h1
  have hrv := D.fin.rv
  cases res with
  | out o =>
    have hrv' : rv = .non := hrv
    subst hrv'
    walk_at "go"
    refine rd_isFN T.kN ?_
    walk_at "go"
    rename_i l H2 nl k2 h2
    refine rd_while (fun m σ' H' => σ' = [some (.ref A'.p), some y.v, some (.ref kn), some (.ref l), none] ∧ Kp [] H2 H') 0 ⟨rfl, Kp.refl⟩ ?_
    rintro m _ H' ⟨rfl, k3⟩
    have h2' := k3.keep _ _ h2 ne_mem0
    have h1' := k3.keep _ _ (k2.keep _ _ h1 ne_mem0) ne_mem0
    walk_at "go"
    rename_i l2 H4 nl2 k4 h4
    refine rd_sortB (ps := []) (k4.keep _ _ h1' ne_mem0) rfl (by decide) fun p ys H5 np k5 h5 ry => ?_
    have ey : ys = [] := by
      have := ry.length
      rw [(srtB_perm []).length_eq] at this
      exact List.length_eq_zero_iff.mp this.symm
    subst ey
    have kk := k1.trans (k2.trans (k3.trans k4))
    exact q p H5 (kk.free np) h5 (kk.trans k5)
  | val u =>
    cases u with
    | clo k b s r z => exact absurd rfl (hno s)
    | int n =>
      have hrv' : rv = nV n := hrv
      subst hrv'
      walk_at "go"
      refine rd_isF0 T.own_F ?_
      walk_at "go"
      rename_i l H2 nl k2 h2
      refine rd_while (fun m σ' H' => σ' = [some (.ref A'.p), some y.v, some (.ref kn), some (.ref l), none] ∧ Kp [] H2 H') 0 ⟨rfl, Kp.refl⟩ ?_
      rintro m _ H' ⟨rfl, k3⟩
      have h2' := k3.keep _ _ h2 ne_mem0
      have h1' := k3.keep _ _ (k2.keep _ _ h1 ne_mem0) ne_mem0
      walk_at "go"
      rename_i l2 H4 nl2 k4 h4
      refine rd_sortB (ps := []) (k4.keep _ _ h1' ne_mem0) rfl (by decide) fun p ys H5 np k5 h5 ry => ?_
      have ey : ys = [] := by
        have := ry.length
        rw [(srtB_perm []).length_eq] at this
        exact List.length_eq_zero_iff.mp this.symm
      subst ey
      have kk := k1.trans (k2.trans (k3.trans k4))
      exact q p H5 (kk.free np) h5 (kk.trans k5)
theorem ok_kept0 {f : Addr} {fd : FuncData} (A : At K mg "kept" s_kept ["program", "way", "most"] f fd) (T : TxtH K w mg a_SHAPES C_Sites C_Run C_Function a_WAYS) (c_need_way : Has P w K mg base "need_way" ["program", "way"] 11 spNeedWay)
    (c_run_of : Has P w K mg base "run_of" ["program", "most"] 13 (spRunOf C_Run C_Function C_Sites)) (c_held : Has P w K mg base "held" ["run", "way"] 4 (spHeld0 C_Run C_Function C_Sites)) : Has P w K mg base "kept" ["program", "way", "most"] 14 spKept0 := by
  obtain ⟨f_need_way, fd_need_way, G_need_way, m_need_way, k_need_way, b_need_way⟩ := c_need_way
  obtain ⟨f_run_of, fd_run_of, G_run_of, m_run_of, k_run_of, b_run_of⟩ := c_run_of
  obtain ⟨f_held, fd_held, G_held, m_held, k_held, b_held⟩ := c_held
  refine ⟨f, fd, A.F.ok sc_kept (fun vs H Q EE h => ?_) (fun cdv A outer s H vs Q EE hr h => ?_), A.m, A.F.kp, A.b⟩
  · obtain ⟨_, _, _, _, rfl, _⟩ := h
    rfl
  obtain ⟨e, v, y, most, rfl, hre, hw, hd, hz, hm, hno, q⟩ := h
  refine ⟨_, (pss_cons (ps_expr (pe_call G_need_way (hr.mono (by first | decide | omega)) (by rfl) m_need_way k_need_way b_need_way .nil pass0 (pa_cons (pv 0) (pa_cons (pv 1) pa_nil))))
      (pss_one (ps_ret (pe_call G_held (hr.mono (by first | decide | omega)) (by rfl) m_held k_held b_held .nil pass0 (pa_cons (pe_call G_run_of (hr.mono (by first | decide | omega)) (by rfl) m_run_of k_run_of b_run_of .nil pass0 (pa_cons (pv 0) (pa_cons (pv 2) pa_nil))) (pa_cons (pv 1) pa_nil)))))), ?_⟩
  refine at_st (σ' := [some v, some y.v, some (nV most)]) rfl ?_
  walk_at "go"
  refine ⟨e, v, y, rfl, hre, hw, hd, hz, fun H1 k1 => ?_⟩
  walk_at "go"
  refine ⟨e, v, most, rfl, hre.mono k1.tup, hw, hd, hz, hm, fun A' res t ov rv kvs ls dx fl lo lf du us v' H2 D k2 => ?_⟩
  walk_at "go"
  exact ⟨y, most, e, A', res, t, ov, rv, kvs, ls, dx, fl, lo, lf, du, us, v', rfl, D, hno res t D.run, fun r H3 nr hr3 k3 => q r H3 ((k1.trans k2).free nr) hr3 (k1.trans (k2.trans k3))⟩
end
end EW

end
section
open PySem L2 EW
local macro_rules | `(tactic| walk_at "ne") => `(tactic| first
  | assumption
  | exact Ne.symm (by assumption)
  | ((with_reducible refine' EW.RowAt.newne ?n ?h); (case n => assumption); (case h => walk_at "hp"))
  | ((with_reducible refine' Ne.symm (EW.RowAt.newne ?n ?h)); (case n => assumption); (case h => walk_at "hp"))
  | ((with_reducible refine' EW.BoxAt.newne ?n ?h); (case n => assumption); (case h => walk_at "hp"))
  | ((with_reducible refine' Ne.symm (EW.BoxAt.newne ?n ?h)); (case n => assumption); (case h => walk_at "hp")))
local macro_rules | `(tactic| walk_at "ns") => `(tactic| first
  | assumption
  | exact EW.RowAt.ne (by assumption)
  | ((with_reducible refine' EW.RowAt.notin ?n ?h); (case n => assumption); (case h => walk_at "hp")))
local macro_rules | `(tactic| walk_at "ni") => `(tactic| first
  | with_reducible exact EW.ne_mem0
  | with_reducible exact EW.dis0
  | ((with_reducible refine' EW.ne_mem1 ?h); (case h => walk_at "ne"))
  | ((with_reducible refine' EW.ne_mem2 ?h ?g); (case h => walk_at "ne"); (case g => walk_at "ne"))
  | ((with_reducible refine' EW.dis1 ?h); (case h => walk_at "ns"))
  | ((with_reducible refine' EW.dis2 ?h ?g); (case h => walk_at "ns"); (case g => walk_at "ns")))
local macro_rules | `(tactic| walk_at "hp") => `(tactic| first
  | assumption
  | ((with_reducible refine' EW.RE.mono (EW.Kp.tup ?k) ?h); (case k => assumption); (case h => walk_at "hp"))
  | ((with_reducible refine' EW.Kp.tup ?k _ _ ?h); (case k => assumption); (case h => walk_at "hp"))
  | ((with_reducible refine' EW.kp_tup ?k ?h); (case k => assumption); (case h => walk_at "hp"))
  | ((with_reducible refine' EW.Kp.keep ?k _ _ ?h ?n); (case k => assumption); (case h => walk_at "hp"); (case n => walk_at "ni"))
  | ((with_reducible refine' EW.Kp.seqL ?k ?h ?n); (case k => assumption); (case h => walk_at "hp"); (case n => walk_at "ni"))
  | ((with_reducible refine' EW.RowAt.keep ?k ?h ?n1 ?n2); (case k => assumption); (case h => walk_at "hp"); (case n1 => walk_at "ni"); (case n2 => walk_at "ni"))
  | ((with_reducible refine' EW.ScAt.keep ?k ?h ?n); (case k => assumption); (case h => walk_at "hp"); (case n => walk_at "ni"))
  | ((with_reducible refine' EW.BoxAt.keep ?k ?h ?n); (case k => assumption); (case h => walk_at "hp"); (case n => walk_at "ni"))
  | ((with_reducible refine' L2.SqL.of ?h); (case h => walk_at "hp"))
  | ((with_reducible refine' L2.SqT.of ?h); (case h => walk_at "hp")))
local macro_rules | `(tactic| walk_at "sb") => `(tactic| first
  | exact EW.sub0
  | exact EW.sub_refl
  | exact EW.sub_l
  | exact EW.sub_r)
local macro_rules | `(tactic| walk_at "kp") => `(tactic| first
  | exact EW.Kp.refl
  | assumption
  | ((with_reducible refine' EW.Kp.trans ?h (EW.Kp.mono ?k ?s)); (case k => assumption); (case s => walk_at "sb"); (case h => walk_at "kp")))
local macro_rules | `(tactic| walk_at "st") => `(tactic| first
  | with_reducible refine rd_seq ?_
  | with_reducible refine rd_next ?_
  | with_reducible refine rd_asg ?_
  | with_reducible refine rd_name ?_
  | with_reducible refine rd_ret ?_
  | with_reducible refine rd_drop ?_
  | ((with_reducible refine' rd_var ?e ?_); (case e => first | with_reducible assumption | exact rfl | assumption))
  | with_reducible refine rd_c ?_
  | with_reducible refine rd_op ?_
  | with_reducible refine rd_I0 ?_
  | with_reducible refine rd_test ?_
  | with_reducible refine rd_tB ?_
  | with_reducible refine rd_not ?_
  | with_reducible refine rd_and ?_
  | with_reducible refine rd_or ?_
  | with_reducible refine rd_ifE ?_
  | with_reducible refine rd_notV ?_
  | with_reducible refine rd_andV ?_
  | with_reducible refine rd_orV ?_
  | with_reducible refine rd_cons ?_
  | with_reducible refine EW.rd_par ?_
  | with_reducible refine EW.rd_par2 ?_
  | with_reducible refine EW.rd_parT ?_
  | with_reducible refine EW.rd_par3 ?_
  | with_reducible refine rd_nil ?_
  | with_reducible refine rd_cb ?_
  | with_reducible refine rd_call ?_
  | with_reducible refine rd_meth ?_
  | with_reducible refine rd_sub ?_
  | with_reducible refine rd_fl ?_
  | with_reducible refine rd_tup ?_
  | with_reducible refine rd_lst ?_
  | with_reducible refine rd_sl ?_
  | with_reducible refine rd_part ?_
  | with_reducible refine rd_partI ?_
  | with_reducible refine rd_nopart ?_
  | with_reducible refine rd_yes ?_
  | with_reducible refine rd_dnewK ?_
  | with_reducible refine rd_dnewT ?_
  | ((with_reducible refine' rd_isT ?h ?_); (case h => walk_at "hp"))
  | with_reducible refine rd_isI ?_
  | with_reducible refine rd_isII ?_
  | with_reducible refine rd_isIB ?_
  | ((with_reducible refine' rd_sum ?h ?_); (case h => walk_at "hp"))
  | ((with_reducible refine' rd_tail ?h ?_); (case h => walk_at "hp"))
  | ((with_reducible refine rd_newO ?_); intro _ _ _ _ _)
  | ((with_reducible refine' rd_lenS ?l ?_); (case l => exact rfl))
  | ((with_reducible refine' rd_ixS ?l ?e ?_); (case l => exact rfl); (case e => first | assumption | with_reducible exact EW.at_head | exact rfl))
  | with_reducible refine EW.ite_dT (by decide +kernel) ?_
  | with_reducible refine EW.ite_dF (by decide +kernel) ?_
  | with_reducible refine EW.ite_nT (by decide +kernel) ?_
  | with_reducible refine EW.ite_nF (by decide +kernel) ?_
  | with_reducible refine EW.iteNF ?_
  | with_reducible refine EW.iteNT ?_
  | with_reducible refine EW.iteEC ?_
  | with_reducible refine EW.iteEN ?_
  | with_reducible refine EW.iteNC ?_
  | with_reducible refine EW.iteNN ?_
  | with_reducible refine EW.rd_kget (by assumption) ?_
  | with_reducible refine EW.rd_kgx (by assumption) _ ?_
  | with_reducible refine EW.rd_ixD (by assumption) _ ?_
  | with_reducible refine EW.rd_chain ?_
  | with_reducible refine L2.iteT ?_
  | with_reducible refine L2.iteF ?_
  | with_reducible refine rd_bm ?_
  | with_reducible refine rd_bm0 ?_
  | with_reducible refine rd_sfld ?_
  | with_reducible refine rd_make ?_
  | ((with_reducible refine' rd_bmL ?s ?_); (case s => walk_at "hp"))
  | ((with_reducible refine' rd_bm0L ?s ?_); (case s => walk_at "hp"))
  | ((with_reducible refine' rd_mex ?s ?l ?_); (case s => walk_at "hp"); (case l => assumption))
  | with_reducible refine rd_lc ?_
  | with_reducible refine rd_for ?_
  | with_reducible refine rd_il ?_
  | with_reducible refine rd_it ?_
  | with_reducible refine rd_ir ?_
  | with_reducible refine rd_dput ?_
  | with_reducible refine rd_dget ?_
  | ((with_reducible refine' rd_ilx ?s ?_); (case s => walk_at "hp"))
  | ((with_reducible refine' rd_itx ?s ?_); (case s => walk_at "hp"))
  | ((with_reducible refine' rd_getK ?s ?e ?_); (case s => walk_at "hp"); (case e => assumption))
  | ((with_reducible refine rd_newT rfl ?_); intro _ _ _ _ _)
  | ((with_reducible refine rd_newL rfl ?_); intro _ _ _ _ _)
  | ((with_reducible refine' rd_taken ?a ?b ?c ?_); (case a => walk_at "hp"); (case b => first | omega | decide); (case c => first | omega | decide); intro _ _ _ _ _)
  | ((with_reducible refine' rd_neE ?a ?b ?_); (case a => walk_at "hp"); (case b => walk_at "hp"))
  | ((with_reducible refine' rd_eqE ?a ?b ?_); (case a => walk_at "hp"); (case b => walk_at "hp"))
  | with_reducible refine rd_eq rfl ?_
  | with_reducible refine rd_ne rfl ?_
  | with_reducible refine rd_bl ?_
  | ((with_reducible refine rd_I ?c ?_); (case c => first | assumption | omega | decide | (exact Or.inl ⟨by omega, by omega⟩) | (exact ⟨by omega, by omega⟩) | (exact ⟨by decide, by decide, by decide⟩)))
  | refine Or.inl ⟨_, rfl, ?_⟩
  | refine Or.inr ⟨_, rfl, ?_⟩
  | ((with_reducible refine' rd_lenL ?s ?_); (case s => walk_at "hp"))
  | ((with_reducible refine' rd_lenT ?s ?_); (case s => walk_at "hp"))
  | ((with_reducible refine' rd_ixL ?s ?e ?_); (case s => walk_at "hp"); (case e => first | assumption | with_reducible exact EW.at_head | exact rfl))
  | ((with_reducible refine' rd_ixT ?s ?e ?_); (case s => walk_at "hp"); (case e => first | assumption | with_reducible exact EW.at_head | exact rfl))
  | ((with_reducible refine' rd_flx ?s ?c ?n ?l ?_); (case s => walk_at "hp"); (case c => assumption); (case n => assumption); (case l => assumption)))
local macro_rules | `(tactic| walk_at "go") => `(tactic| repeat (walk_at "st"))
local macro_rules | `(tactic| walk_at "gi") => `(tactic| repeat (first | with_reducible refine rd_if ?_ | walk_at "st"))
namespace EW
open PySem L2
theorem Reach.ow {so : Nat → Option (Option Nat)} {L : Lg} {h s a : Nat} (r : Reach so L h s a) : ∃ o, L.ow[a]? = some o := by
  induction r with
  | here g e => exact ⟨_, e⟩
  | up _ _ _ _ _ ih => exact ih
theorem LkC.ow {L : Lg} {ct : Nat → Bool} {k h a c : Nat} (x : LkC L ct k h a c) (l : L.ow.length = L.up.length) (r : ∃ o, L.ow[a]? = some o) : ∃ o, L.ow[h]? = some o := by
  cases x with
  | here => exact r
  | up n u _ => exact ⟨_, List.getElem?_eq_getElem (by rw [l]; exact (List.getElem?_eq_some_iff.mp u).1)⟩
def spLookOf (CR CF CS : Addr) : Sp := fun vs H Q _ => ∃ (y : Way) (h s a most : Nat) (e : E) (A : RA) (res : Res) (t : List Ev) (ov rv : V) (kvs : List (List Key × V)) (ls : List V) (dx : Addr) (fl : List (Str × V)) (lo lf du : Addr) (us : Ua) (v : V),
  vs = [.ref A.p, y.v, nV h, nV a] ∧ DoneAt CR CF CS H e most A res t ov rv kvs ls dx fl lo lf du us v ∧ e.size ≤ 60 ∧ Reach (so0 e) (Lg0.evs t) h s a ∧ ∀ c H', LookC y (Lg0.evs t) (hsOf e (Lg0.evs t)) h a c → Kp [] H H' → Q (nV c) H'
section
variable {P : Program} {w : World} {K : PySem.W.Frag} {mg : Str → Option Value} {base : Heap} {a_SHAPES C_Sites C_Run C_Function a_WAYS : Addr}
theorem ok_look_of {f : Addr} {fd : FuncData} (A : At K mg "look_of" s_look_of ["run", "way", "here", "there"] f fd) (T : TxtC K w mg a_SHAPES C_Sites C_Run C_Function a_WAYS) (c_Sites_house_of : HasM P w K mg base C_Sites "house_of" ["self", "owner"] 2 (spHouseOf C_Sites)) :
    Has P w K mg base "look_of" ["run", "way", "here", "there"] 3 (spLookOf C_Run C_Function C_Sites) := by
  obtain ⟨f_Sites_house_of, fd_Sites_house_of, G_Sites_house_of, me_Sites_house_of, b_Sites_house_of⟩ := c_Sites_house_of
  refine ⟨f, fd, A.F.ok sc_look_of (fun vs H Q EE h => ?_) (fun cdv A outer s H vs Q EE hr h => ?_), A.m, A.F.kp, A.b⟩
  · obtain ⟨_, _, _, _, _, _, _, _, _, _, _, _, _, _, _, _, _, _, _, _, rfl, _⟩ := h
    rfl
  obtain ⟨y, h0, s0, a0, most, e, A', res, t, ov, rv, kvs, ls, dx, fl, lo, lf, du, us, v, rfl, D, hz, rch, q⟩ := h
  have hu := hu_of hr
  have cl := T.cl_Run
  have n1 := T.n_r "ups" (by simp)
  have n2 := T.n_r "owners" (by simp)
  have n3 := T.n_r "sites" (by simp)
  have hob := D.fin.ob
  have e1 : (runG A' (most - nact t) ov rv).lookup ("ups" : Str) = some (.ref A'.lu) := rfl
  have e2 : (runG A' (most - nact t) ov rv).lookup ("owners" : Str) = some (.ref A'.lo) := rfl
  have e3 : (runG A' (most - nact t) ov rv).lookup ("sites" : Str) = some (.ref A'.x) := rfl
  refine ⟨_, (pss_cons (ps_if (pt_cmpR op_eq (pv 2) (pv 3) (nomark _))
        (pss_one (ps_ret pe_int))
        pss_nil)
      (pss_cons (ps_if (pt_cmpR op_eq (pv 1) pe_str (nomark _))
        (pss_one (ps_ret pe_int))
        pss_nil)
      (pss_cons (ps_set (i := 4) sc_look_of.nd rfl (Or.inl rfl) pe_int)
      (pss_cons (ps_while PassesOwn.never (pt_cmpR op_ne (pv 2) (pv 3) (nomark _))
        (pss_cons (ps_set (i := 2) sc_look_of.nd rfl (Or.inl rfl) (pe_ix (w_ixL (K := K) rfl) (w_fld (K := K) rfl (pv 0) rfl) (pv 2) (fun _ _ => rfl)))
        (pss_one (ps_if (PW.pt (pw_or (pt_cmpR op_eq (pv 1) pe_str (nomark _)) (pw_or1 (pt_cmpR (op_neE hr.units0) (pe_meth (w_fld (K := K) rfl (pv 0) rfl) T.cl_Sites me_Sites_house_of G_Sites_house_of (hr.mono (by first | decide | omega)) b_Sites_house_of .nil pass0 (pa_cons (pe_ix (w_ixL (K := K) rfl) (w_fld (K := K) rfl (pv 0) rfl) (pv 2) (fun _ _ => rfl)) pa_nil)) (pe_lst pa_nil) (nomark _)))))
          (pss_one (ps_set (i := 4) sc_look_of.nd rfl (Or.inl rfl) (pe_op op_add (pv 4) pe_int)))
          pss_nil))))
      (pss_one (ps_ret (pv 4))))))), ?_⟩
  refine at_st (σ' := [some (.ref A'.p), some y.v, some (nV h0), some (nV a0), none]) rfl ?_
  walk_at "gi"
  by_cases hab : h0 = a0
  · subst hab
    refine ite_dT rfl ?_
    walk_at "gi"
    exact q 1 H (.inl ⟨rfl, rfl⟩) Kp.refl
  refine ite_dF (fun z => hab (Int.ofNat.inj (V.int.inj z))) ?_
  cases y with
  | flat =>
    walk_at "gi"
    exact q 2 H (.inr ⟨hab, rfl⟩) Kp.refl
  | tied =>
    walk_at "gi"
    obtain ⟨k, d, lk⟩ := rch.lkc (ct := fun _ => true)
    refine rd_while (fun m σ' H' => ∃ h1 d0 d1, σ' = [some (.ref A'.p), some Way.tied.v, some (nV h1), some (nV a0), some (nV (1 + d0))] ∧ Kp [] H H' ∧ LkC (Lg0.evs t) (fun _ => true) m h1 a0 d1 ∧ d0 + d1 = d) k ⟨h0, 0, d, rfl, Kp.refl, lk, Nat.zero_add _⟩ ?_
    rintro m _ H1 ⟨h1, d0, d1, rfl, k1, l1, ed⟩
    have D1 := D.keep0 k1
    have hob1 := D1.fin.ob
    have hhu1 := D1.fin.hu
    cases l1 with
    | here =>
      walk_at "gi"
      refine ite_nF rfl ?_
      walk_at "gi"
      exact q (1 + d0) H1 (.inr ⟨hab, k, d, lk, by omega⟩) k1
    | @up _ _ h2 _ c n u r =>
      have i3 : atI ((Lg0.evs t).up.map oV) ((h1 : Nat) : Int) = some (nV h2) := atI_nat (by rw [List.getElem?_map, u] <;> rfl)
      walk_at "gi"
      refine ite_nT (fun z => n (Int.ofNat.inj (V.int.inj z))) ?_
      refine ⟨_, fun σ2 H2 h => ⟨_, Nat.lt_succ_self _, h⟩, ?_⟩
      walk_at "gi"
      exact ⟨h2, d0 + 1, c, rfl, k1, r, by simp at ed; omega⟩
  | shared =>
    walk_at "gi"
    obtain ⟨k, d, lk⟩ := rch.lkc (ct := hsOf e (Lg0.evs t))
    have hlen : (Lg0.evs t).ow.length = (Lg0.evs t).up.length := by rw [Lg.ow_evs, Lg.up_evs] <;> rfl
    have cs := T.cl_Sites
    refine rd_while (fun m σ' H' => ∃ h1 d0 d1, σ' = [some (.ref A'.p), some Way.shared.v, some (nV h1), some (nV a0), some (nV (1 + d0))] ∧ Kp [] H H' ∧ LkC (Lg0.evs t) (hsOf e (Lg0.evs t)) m h1 a0 d1 ∧ d0 + d1 = d) k ⟨h0, 0, d, rfl, Kp.refl, lk, Nat.zero_add _⟩ ?_
    rintro m _ H1 ⟨h1, d0, d1, rfl, k1, l1, ed⟩
    have D1 := D.keep0 k1
    have hob1 := D1.fin.ob
    have hhu1 := D1.fin.hu
    have hho1 := D1.fin.ho
    have hx1 := D1.st.S.ob
    have m4 := D1.st.S.fl.m4
    cases l1 with
    | here =>
      walk_at "gi"
      refine ite_nF rfl ?_
      walk_at "gi"
      exact q (1 + d0) H1 (.inr ⟨hab, k, d, lk, by omega⟩) k1
    | @up _ _ h2 _ c n u r =>
      obtain ⟨o, ho⟩ := r.ow hlen rch.ow
      have i3 : atI ((Lg0.evs t).up.map oV) ((h1 : Nat) : Int) = some (nV h2) := atI_nat (by rw [List.getElem?_map, u] <;> rfl)
      have i4 : atI ((Lg0.evs t).ow.map oV) ((h2 : Nat) : Int) = some (oV o) := atI_nat (by rw [List.getElem?_map, ho] <;> rfl)
      walk_at "gi"
      refine ite_nT (fun z => n (Int.ofNat.inj (V.int.inj z))) ?_
      refine ⟨_, fun σ2 H2 h => ⟨_, Nat.lt_succ_self _, h⟩, ?_⟩
      walk_at "gi"
      have sm := D1.st.small hz
      have Sh : SAt H1 C_Sites A'.x dx fl lo lf du (own e none 0) (us.map fun u => u.1) us := by rw [D1.st.keys]; exact D1.st.S
      refine rd_houseOf Sh (by rw [own_length]; have := E.ns_le_size e; omega) sm.1 sm.2 fun rr H2 nr h2' k2 => ?_
      rw [D1.st.us] at h2'
      walk_at "gi"
      rename_i pe H3 ne3 k3 h3
      have hb : (!((houseBy (own e none 0) (mU e sc0 0 [] []) o).map nV).isEmpty) = hsOf e (Lg0.evs t) h2 := by
        unfold hsOf
        rw [ho]
        simp
      rw [hb]
      have kk : Kp [] H H3 := k1.trans (k2.trans k3)
      cases hc : hsOf e (Lg0.evs t) h2 with
      | false =>
        rw [hc] at ed
        walk_at "gi"
        exact ⟨h2, d0, c, rfl, kk, r, by simp at ed; omega⟩
      | true =>
        rw [hc] at ed
        walk_at "gi"
        exact ⟨h2, d0 + 1, c, rfl, kk, r, by simp at ed; omega⟩
end
end EW

end
section
open PySem L2 EW
local macro_rules | `(tactic| walk_at "ne") => `(tactic| first
  | assumption
  | exact Ne.symm (by assumption)
  | ((with_reducible refine' EW.RowAt.newne ?n ?h); (case n => assumption); (case h => walk_at "hp"))
  | ((with_reducible refine' Ne.symm (EW.RowAt.newne ?n ?h)); (case n => assumption); (case h => walk_at "hp"))
  | ((with_reducible refine' EW.BoxAt.newne ?n ?h); (case n => assumption); (case h => walk_at "hp"))
  | ((with_reducible refine' Ne.symm (EW.BoxAt.newne ?n ?h)); (case n => assumption); (case h => walk_at "hp")))
local macro_rules | `(tactic| walk_at "ns") => `(tactic| first
  | assumption
  | exact EW.RowAt.ne (by assumption)
  | ((with_reducible refine' EW.RowAt.notin ?n ?h); (case n => assumption); (case h => walk_at "hp")))
local macro_rules | `(tactic| walk_at "ni") => `(tactic| first
  | with_reducible exact EW.ne_mem0
  | with_reducible exact EW.dis0
  | ((with_reducible refine' EW.ne_mem1 ?h); (case h => walk_at "ne"))
  | ((with_reducible refine' EW.ne_mem2 ?h ?g); (case h => walk_at "ne"); (case g => walk_at "ne"))
  | ((with_reducible refine' EW.dis1 ?h); (case h => walk_at "ns"))
  | ((with_reducible refine' EW.dis2 ?h ?g); (case h => walk_at "ns"); (case g => walk_at "ns")))
local macro_rules | `(tactic| walk_at "hp") => `(tactic| first
  | assumption
  | ((with_reducible refine' EW.RE.mono (EW.Kp.tup ?k) ?h); (case k => assumption); (case h => walk_at "hp"))
  | ((with_reducible refine' EW.Kp.tup ?k _ _ ?h); (case k => assumption); (case h => walk_at "hp"))
  | ((with_reducible refine' EW.kp_tup ?k ?h); (case k => assumption); (case h => walk_at "hp"))
  | ((with_reducible refine' EW.Kp.keep ?k _ _ ?h ?n); (case k => assumption); (case h => walk_at "hp"); (case n => walk_at "ni"))
  | ((with_reducible refine' EW.Kp.seqL ?k ?h ?n); (case k => assumption); (case h => walk_at "hp"); (case n => walk_at "ni"))
  | ((with_reducible refine' EW.RowAt.keep ?k ?h ?n1 ?n2); (case k => assumption); (case h => walk_at "hp"); (case n1 => walk_at "ni"); (case n2 => walk_at "ni"))
  | ((with_reducible refine' EW.ScAt.keep ?k ?h ?n); (case k => assumption); (case h => walk_at "hp"); (case n => walk_at "ni"))
  | ((with_reducible refine' EW.BoxAt.keep ?k ?h ?n); (case k => assumption); (case h => walk_at "hp"); (case n => walk_at "ni"))
  | ((with_reducible refine' L2.SqL.of ?h); (case h => walk_at "hp"))
  | ((with_reducible refine' L2.SqT.of ?h); (case h => walk_at "hp")))
local macro_rules | `(tactic| walk_at "sb") => `(tactic| first
  | exact EW.sub0
  | exact EW.sub_refl
  | exact EW.sub_l
  | exact EW.sub_r)
local macro_rules | `(tactic| walk_at "kp") => `(tactic| first
  | exact EW.Kp.refl
  | assumption
  | ((with_reducible refine' EW.Kp.trans ?h (EW.Kp.mono ?k ?s)); (case k => assumption); (case s => walk_at "sb"); (case h => walk_at "kp")))
local macro_rules | `(tactic| walk_at "st") => `(tactic| first
  | with_reducible refine rd_seq ?_
  | with_reducible refine rd_next ?_
  | with_reducible refine rd_asg ?_
  | with_reducible refine rd_name ?_
  | with_reducible refine rd_ret ?_
  | with_reducible refine rd_drop ?_
  | ((with_reducible refine' rd_var ?e ?_); (case e => first | with_reducible assumption | exact rfl | assumption))
  | with_reducible refine rd_c ?_
  | with_reducible refine rd_op ?_
  | with_reducible refine rd_I0 ?_
  | with_reducible refine rd_test ?_
  | with_reducible refine rd_tB ?_
  | with_reducible refine rd_not ?_
  | with_reducible refine rd_and ?_
  | with_reducible refine rd_or ?_
  | with_reducible refine rd_ifE ?_
  | with_reducible refine rd_notV ?_
  | with_reducible refine rd_andV ?_
  | with_reducible refine rd_orV ?_
  | with_reducible refine rd_cons ?_
  | with_reducible refine EW.rd_par ?_
  | with_reducible refine EW.rd_par2 ?_
  | with_reducible refine EW.rd_parT ?_
  | with_reducible refine EW.rd_par3 ?_
  | with_reducible refine rd_nil ?_
  | with_reducible refine rd_cb ?_
  | with_reducible refine rd_call ?_
  | with_reducible refine rd_meth ?_
  | with_reducible refine rd_sub ?_
  | with_reducible refine rd_fl ?_
  | with_reducible refine rd_tup ?_
  | with_reducible refine rd_lst ?_
  | with_reducible refine rd_sl ?_
  | with_reducible refine rd_part ?_
  | with_reducible refine rd_partI ?_
  | with_reducible refine rd_nopart ?_
  | with_reducible refine rd_yes ?_
  | with_reducible refine rd_dnewK ?_
  | with_reducible refine rd_dnewT ?_
  | ((with_reducible refine' rd_isT ?h ?_); (case h => walk_at "hp"))
  | with_reducible refine rd_isI ?_
  | with_reducible refine rd_isII ?_
  | with_reducible refine rd_isIB ?_
  | ((with_reducible refine' rd_sum ?h ?_); (case h => walk_at "hp"))
  | ((with_reducible refine' rd_tail ?h ?_); (case h => walk_at "hp"))
  | ((with_reducible refine rd_newO ?_); intro _ _ _ _ _)
  | ((with_reducible refine' rd_lenS ?l ?_); (case l => exact rfl))
  | ((with_reducible refine' rd_ixS ?l ?e ?_); (case l => exact rfl); (case e => first | assumption | with_reducible exact EW.at_head | exact rfl))
  | with_reducible refine EW.ite_dT (by decide +kernel) ?_
  | with_reducible refine EW.ite_dF (by decide +kernel) ?_
  | with_reducible refine EW.ite_nT (by decide +kernel) ?_
  | with_reducible refine EW.ite_nF (by decide +kernel) ?_
  | with_reducible refine EW.iteNF ?_
  | with_reducible refine EW.iteNT ?_
  | with_reducible refine EW.iteEC ?_
  | with_reducible refine EW.iteEN ?_
  | with_reducible refine EW.iteNC ?_
  | with_reducible refine EW.iteNN ?_
  | with_reducible refine EW.rd_kget (by assumption) ?_
  | with_reducible refine EW.rd_kgx (by assumption) _ ?_
  | with_reducible refine EW.rd_ixD (by assumption) _ ?_
  | with_reducible refine EW.rd_chain ?_
  | with_reducible refine L2.iteT ?_
  | with_reducible refine L2.iteF ?_
  | with_reducible refine rd_bm ?_
  | with_reducible refine rd_bm0 ?_
  | with_reducible refine rd_sfld ?_
  | with_reducible refine rd_make ?_
  | ((with_reducible refine' rd_bmL ?s ?_); (case s => walk_at "hp"))
  | ((with_reducible refine' rd_bm0L ?s ?_); (case s => walk_at "hp"))
  | ((with_reducible refine' rd_mex ?s ?l ?_); (case s => walk_at "hp"); (case l => assumption))
  | with_reducible refine rd_lc ?_
  | with_reducible refine rd_for ?_
  | with_reducible refine rd_il ?_
  | with_reducible refine rd_it ?_
  | with_reducible refine rd_ir ?_
  | with_reducible refine rd_dput ?_
  | with_reducible refine rd_dget ?_
  | ((with_reducible refine' rd_ilx ?s ?_); (case s => walk_at "hp"))
  | ((with_reducible refine' rd_itx ?s ?_); (case s => walk_at "hp"))
  | ((with_reducible refine' rd_getK ?s ?e ?_); (case s => walk_at "hp"); (case e => assumption))
  | ((with_reducible refine rd_newT rfl ?_); intro _ _ _ _ _)
  | ((with_reducible refine rd_newL rfl ?_); intro _ _ _ _ _)
  | ((with_reducible refine' rd_taken ?a ?b ?c ?_); (case a => walk_at "hp"); (case b => first | omega | decide); (case c => first | omega | decide); intro _ _ _ _ _)
  | ((with_reducible refine' rd_neE ?a ?b ?_); (case a => walk_at "hp"); (case b => walk_at "hp"))
  | ((with_reducible refine' rd_eqE ?a ?b ?_); (case a => walk_at "hp"); (case b => walk_at "hp"))
  | with_reducible refine rd_eq rfl ?_
  | with_reducible refine rd_ne rfl ?_
  | with_reducible refine rd_bl ?_
  | ((with_reducible refine rd_I ?c ?_); (case c => first | assumption | omega | decide | (exact Or.inl ⟨by omega, by omega⟩) | (exact ⟨by omega, by omega⟩) | (exact ⟨by decide, by decide, by decide⟩)))
  | refine Or.inl ⟨_, rfl, ?_⟩
  | refine Or.inr ⟨_, rfl, ?_⟩
  | ((with_reducible refine' rd_lenL ?s ?_); (case s => walk_at "hp"))
  | ((with_reducible refine' rd_lenT ?s ?_); (case s => walk_at "hp"))
  | ((with_reducible refine' rd_ixL ?s ?e ?_); (case s => walk_at "hp"); (case e => first | assumption | with_reducible exact EW.at_head | exact rfl))
  | ((with_reducible refine' rd_ixT ?s ?e ?_); (case s => walk_at "hp"); (case e => first | assumption | with_reducible exact EW.at_head | exact rfl))
  | ((with_reducible refine' rd_flx ?s ?c ?n ?l ?_); (case s => walk_at "hp"); (case c => assumption); (case n => assumption); (case l => assumption)))
local macro_rules | `(tactic| walk_at "go") => `(tactic| repeat (walk_at "st"))
local macro_rules | `(tactic| walk_at "gi") => `(tactic| repeat (first | with_reducible refine rd_if ?_ | walk_at "st"))
namespace EW
open PySem L2
def spLooked (CR CF CS : Addr) : Sp := fun vs H Q _ => ∃ (e : E) (v : V) (y : Way) (most : Nat), vs = [v, y.v, nV most] ∧ RE H e v ∧ e.Wf [] ∧ e.depth ≤ 7 ∧ e.size ≤ 60 ∧ most ≤ 60 ∧
  ∀ res t n H', Run e most res t → Looked y e t n → Kp [] H H' → Q (nV n) H'
theorem rd_looked {CR CF CS : Addr} {H : Hp} {Q : VK} {EE : XK} {e : E} {v : V} (y : Way) {most : Nat} (h : RE H e v) (w : e.Wf []) (d : e.depth ≤ 7) (z : e.size ≤ 60) (m : most ≤ 60) (q : ∀ res t n H', Run e most res t → Looked y e t n → Kp [] H H' → Q (nV n) H') :
    spLooked CR CF CS ([v, y.v, nV most] ++ []) H Q EE := ⟨e, v, y, most, rfl, h, w, d, z, m, q⟩
section
variable {P : Program} {w : World} {K : PySem.W.Frag} {mg : Str → Option Value} {base : Heap} {a_SHAPES C_Sites C_Run C_Function a_WAYS : Addr}
theorem ok_looked {f : Addr} {fd : FuncData} (A : At K mg "looked" s_looked ["program", "way", "most"] f fd) (T : TxtC K w mg a_SHAPES C_Sites C_Run C_Function a_WAYS) (c_need_way : Has P w K mg base "need_way" ["program", "way"] 11 spNeedWay)
    (c_run_of : Has P w K mg base "run_of" ["program", "most"] 13 (spRunOf C_Run C_Function C_Sites)) (c_look_of : Has P w K mg base "look_of" ["run", "way", "here", "there"] 3 (spLookOf C_Run C_Function C_Sites)) : Has P w K mg base "looked" ["program", "way", "most"] 14 (spLooked C_Run C_Function C_Sites) := by
  obtain ⟨f_need_way, fd_need_way, G_need_way, m_need_way, k_need_way, b_need_way⟩ := c_need_way
  obtain ⟨f_run_of, fd_run_of, G_run_of, m_run_of, k_run_of, b_run_of⟩ := c_run_of
  obtain ⟨f_look_of, fd_look_of, G_look_of, m_look_of, k_look_of, b_look_of⟩ := c_look_of
  refine ⟨f, fd, A.F.ok sc_looked (fun vs H Q EE h => ?_) (fun cdv A outer s H vs Q EE hr h => ?_), A.m, A.F.kp, A.b⟩
  · obtain ⟨_, _, _, _, rfl, _⟩ := h
    rfl
  obtain ⟨e, v, y, most, rfl, hre, hw, hd, hz, hm, q⟩ := h
  have hu := hu_of hr
  have cl := T.cl_Run
  have n1 := T.n_r "looks" (by simp)
  refine ⟨_, (pss_cons (ps_expr (pe_call G_need_way (hr.mono (by first | decide | omega)) (by rfl) m_need_way k_need_way b_need_way .nil pass0 (pa_cons (pv 0) (pa_cons (pv 1) pa_nil))))
      (pss_cons (ps_set (i := 3) sc_looked.nd rfl (Or.inr rfl) (pe_call G_run_of (hr.mono (by first | decide | omega)) (by rfl) m_run_of k_run_of b_run_of .nil pass0 (pa_cons (pv 0) (pa_cons (pv 2) pa_nil))))
      (pss_one (ps_ret (pe_callB (w_sum (K := K) rfl rfl) (by rfl) T.z_sum (by decide +kernel) (pa_cons (pe_lc (own := [("here", 4), ("binding", 5)]) (g := (gTup K 2 (gCons (gName 4) (gCons (gName 5) gNil)))) (tt := tYes) rfl sc_looked.nd (w_piL (K := K) rfl (w_fld (K := K) rfl (pv 3) rfl)) (blkOk_by (own := [("here", 4), ("binding", 5)]) (N := N_looked) (sc := defScope s_looked) (by decide +kernel)) (fun _ _ _ _ _ => (w_pgT (K := K) rfl rfl (pgs_cons (pg_name (i := 4) sc_looked.nd rfl (Or.inl rfl)) (pgs_cons (pg_name (i := 5) sc_looked.nd rfl (Or.inl rfl)) pgs_nil)) rfl rfl)) (fun _ _ _ _ _ => pts_nil) (fun _ _ _ _ _ => (pe_call G_look_of (hr.mono (by first | decide | omega)) (by rfl) m_look_of k_look_of b_look_of .nil pass0 (pa_cons (pv 3) (pa_cons (pv 1) (pa_cons (pv 4) (pa_cons (pe_ix (w_ixT (K := K) rfl) (pv 5) pe_int (fun _ _ => rfl)) pa_nil))))))) pa_nil)))))), ?_⟩
  refine at_st (σ' := [some v, some y.v, some (nV most), none, none, none]) rfl ?_
  walk_at "go"
  refine ⟨e, v, y, rfl, hre, hw, hd, hz, fun H1 k1 => ?_⟩
  walk_at "go"
  refine ⟨e, v, most, rfl, hre.mono k1.tup, hw, hd, hz, hm, fun A' res t ov rv kvs ls dx fl lo lf du us v' H2 D k2 => ?_⟩
  have hob := D.fin.ob
  have hhl := D.fin.hl
  have e1 : (runG A' (most - nact t) ov rv).lookup ("looks" : Str) = some (.ref A'.ll) := rfl
  walk_at "go"
  intro D' hD
  have hll := D.fin.rl.length
  have hsm := D.run.small hz hm
  have hlk := D.run.lkOk
  refine lc_J (M := []) (fun l acc _ => ∃ cs : List Nat, acc = cs.map nV ∧ LookCs y (Lg0.evs t) (hsOf e (Lg0.evs t)) ((Lg0.evs t).lk.take l.length) cs) (fun _ _ _ _ _ h => h) hD (fun _ z => nomatch z) (SqL.of hhl) (fun z => nomatch z) (by omega) ⟨[], rfl, trivial⟩ ?_ ?_
  · rintro l xv r acc H3 el ⟨cs, rfl, hc⟩ k3 _ hD3 Qy Qn qy qn
    rw [el] at hll
    have hrl := D.fin.rl
    rw [el] at hrl
    obtain ⟨u, hu1, pt, pb, rfl, g1, g2⟩ := hrl.at
    have et : (Lg0.evs t).lk.take (l ++ [V.ref pt]).length = (Lg0.evs t).lk.take l.length ++ [u] := by
      rw [List.length_append]
      exact take_at hu1
    have g1' := k3.tup _ _ g1
    have g2' := k3.tup _ _ g2
    have D3 := D.keep0 k3
    have rch := hlk u (List.mem_of_getElem? hu1)
    refine ⟨pt, [nV u.1, .ref pb], rfl, SqT.of g1', rfl, ?_⟩
    refine ⟨_, _, rfl, rd_name ?_⟩
    refine ⟨_, _, rfl, rd_name ?_⟩
    refine ⟨rfl, rfl, rd_yes ?_⟩
    walk_at "go"
    refine ⟨y, u.1, u.2.2, u.2.1, most, e, A', res, t, ov, rv, kvs, _, dx, fl, lo, lf, du, us, v', rfl, D3, hz, rch, fun c H4 hc4 k4 => ?_⟩
    refine qy _ _ k4 ⟨cs ++ [c], by rw [List.map_append] <;> rfl, ?_⟩
    rw [et]
    exact LookCs.snoc hc4 hc
  · rintro acc H3 ⟨cs, rfl, hc⟩ k3 h3 _
    rw [← hll, List.take_length] at hc
    walk_at "go"
    refine rd_sum (ns := cs.map fun n : Nat => (n : Int)) (SqL.of (by rw [h3, List.map_map] <;> rfl)) ?_
    rw [sum_nat]
    exact q res t _ H3 D.run ⟨cs, hc, rfl⟩ ((k1.trans k2).trans k3)
end
end EW

end
section
open PySem L2 EW
local macro_rules | `(tactic| walk_at "ne") => `(tactic| first
  | assumption
  | exact Ne.symm (by assumption)
  | ((with_reducible refine' EW.RowAt.newne ?n ?h); (case n => assumption); (case h => walk_at "hp"))
  | ((with_reducible refine' Ne.symm (EW.RowAt.newne ?n ?h)); (case n => assumption); (case h => walk_at "hp"))
  | ((with_reducible refine' EW.BoxAt.newne ?n ?h); (case n => assumption); (case h => walk_at "hp"))
  | ((with_reducible refine' Ne.symm (EW.BoxAt.newne ?n ?h)); (case n => assumption); (case h => walk_at "hp")))
local macro_rules | `(tactic| walk_at "ns") => `(tactic| first
  | assumption
  | exact EW.RowAt.ne (by assumption)
  | ((with_reducible refine' EW.RowAt.notin ?n ?h); (case n => assumption); (case h => walk_at "hp")))
local macro_rules | `(tactic| walk_at "ni") => `(tactic| first
  | with_reducible exact EW.ne_mem0
  | with_reducible exact EW.dis0
  | ((with_reducible refine' EW.ne_mem1 ?h); (case h => walk_at "ne"))
  | ((with_reducible refine' EW.ne_mem2 ?h ?g); (case h => walk_at "ne"); (case g => walk_at "ne"))
  | ((with_reducible refine' EW.dis1 ?h); (case h => walk_at "ns"))
  | ((with_reducible refine' EW.dis2 ?h ?g); (case h => walk_at "ns"); (case g => walk_at "ns")))
local macro_rules | `(tactic| walk_at "hp") => `(tactic| first
  | assumption
  | ((with_reducible refine' EW.RE.mono (EW.Kp.tup ?k) ?h); (case k => assumption); (case h => walk_at "hp"))
  | ((with_reducible refine' EW.Kp.tup ?k _ _ ?h); (case k => assumption); (case h => walk_at "hp"))
  | ((with_reducible refine' EW.kp_tup ?k ?h); (case k => assumption); (case h => walk_at "hp"))
  | ((with_reducible refine' EW.Kp.keep ?k _ _ ?h ?n); (case k => assumption); (case h => walk_at "hp"); (case n => walk_at "ni"))
  | ((with_reducible refine' EW.Kp.seqL ?k ?h ?n); (case k => assumption); (case h => walk_at "hp"); (case n => walk_at "ni"))
  | ((with_reducible refine' EW.RowAt.keep ?k ?h ?n1 ?n2); (case k => assumption); (case h => walk_at "hp"); (case n1 => walk_at "ni"); (case n2 => walk_at "ni"))
  | ((with_reducible refine' EW.ScAt.keep ?k ?h ?n); (case k => assumption); (case h => walk_at "hp"); (case n => walk_at "ni"))
  | ((with_reducible refine' EW.BoxAt.keep ?k ?h ?n); (case k => assumption); (case h => walk_at "hp"); (case n => walk_at "ni"))
  | ((with_reducible refine' L2.SqL.of ?h); (case h => walk_at "hp"))
  | ((with_reducible refine' L2.SqT.of ?h); (case h => walk_at "hp")))
local macro_rules | `(tactic| walk_at "sb") => `(tactic| first
  | exact EW.sub0
  | exact EW.sub_refl
  | exact EW.sub_l
  | exact EW.sub_r)
local macro_rules | `(tactic| walk_at "kp") => `(tactic| first
  | exact EW.Kp.refl
  | assumption
  | ((with_reducible refine' EW.Kp.trans ?h (EW.Kp.mono ?k ?s)); (case k => assumption); (case s => walk_at "sb"); (case h => walk_at "kp")))
local macro_rules | `(tactic| walk_at "st") => `(tactic| first
  | with_reducible refine rd_seq ?_
  | with_reducible refine rd_next ?_
  | with_reducible refine rd_asg ?_
  | with_reducible refine rd_name ?_
  | with_reducible refine rd_ret ?_
  | with_reducible refine rd_drop ?_
  | ((with_reducible refine' rd_var ?e ?_); (case e => first | with_reducible assumption | exact rfl | assumption))
  | with_reducible refine rd_c ?_
  | with_reducible refine rd_op ?_
  | with_reducible refine rd_I0 ?_
  | with_reducible refine rd_test ?_
  | with_reducible refine rd_tB ?_
  | with_reducible refine rd_not ?_
  | with_reducible refine rd_and ?_
  | with_reducible refine rd_or ?_
  | with_reducible refine rd_ifE ?_
  | with_reducible refine rd_notV ?_
  | with_reducible refine rd_andV ?_
  | with_reducible refine rd_orV ?_
  | with_reducible refine rd_cons ?_
  | with_reducible refine EW.rd_par ?_
  | with_reducible refine EW.rd_par2 ?_
  | with_reducible refine EW.rd_parT ?_
  | with_reducible refine EW.rd_par3 ?_
  | with_reducible refine rd_nil ?_
  | with_reducible refine rd_cb ?_
  | with_reducible refine rd_call ?_
  | with_reducible refine rd_meth ?_
  | with_reducible refine rd_sub ?_
  | with_reducible refine rd_fl ?_
  | with_reducible refine rd_tup ?_
  | with_reducible refine rd_lst ?_
  | with_reducible refine rd_sl ?_
  | with_reducible refine rd_part ?_
  | with_reducible refine rd_partI ?_
  | with_reducible refine rd_nopart ?_
  | with_reducible refine rd_yes ?_
  | with_reducible refine rd_dnewK ?_
  | with_reducible refine rd_dnewT ?_
  | ((with_reducible refine' rd_isT ?h ?_); (case h => walk_at "hp"))
  | with_reducible refine rd_isI ?_
  | with_reducible refine rd_isII ?_
  | with_reducible refine rd_isIB ?_
  | ((with_reducible refine' rd_sum ?h ?_); (case h => walk_at "hp"))
  | ((with_reducible refine' rd_tail ?h ?_); (case h => walk_at "hp"))
  | ((with_reducible refine rd_newO ?_); intro _ _ _ _ _)
  | ((with_reducible refine' rd_lenS ?l ?_); (case l => exact rfl))
  | ((with_reducible refine' rd_ixS ?l ?e ?_); (case l => exact rfl); (case e => first | assumption | with_reducible exact EW.at_head | exact rfl))
  | with_reducible refine EW.ite_dT (by decide +kernel) ?_
  | with_reducible refine EW.ite_dF (by decide +kernel) ?_
  | with_reducible refine EW.ite_nT (by decide +kernel) ?_
  | with_reducible refine EW.ite_nF (by decide +kernel) ?_
  | with_reducible refine EW.iteNF ?_
  | with_reducible refine EW.iteNT ?_
  | with_reducible refine EW.iteEC ?_
  | with_reducible refine EW.iteEN ?_
  | with_reducible refine EW.iteNC ?_
  | with_reducible refine EW.iteNN ?_
  | with_reducible refine EW.rd_kget (by assumption) ?_
  | with_reducible refine EW.rd_kgx (by assumption) _ ?_
  | with_reducible refine EW.rd_ixD (by assumption) _ ?_
  | with_reducible refine EW.rd_chain ?_
  | with_reducible refine L2.iteT ?_
  | with_reducible refine L2.iteF ?_
  | with_reducible refine rd_bm ?_
  | with_reducible refine rd_bm0 ?_
  | with_reducible refine rd_sfld ?_
  | with_reducible refine rd_make ?_
  | ((with_reducible refine' rd_bmL ?s ?_); (case s => walk_at "hp"))
  | ((with_reducible refine' rd_bm0L ?s ?_); (case s => walk_at "hp"))
  | ((with_reducible refine' rd_mex ?s ?l ?_); (case s => walk_at "hp"); (case l => assumption))
  | with_reducible refine rd_lc ?_
  | with_reducible refine rd_for ?_
  | with_reducible refine rd_il ?_
  | with_reducible refine rd_it ?_
  | with_reducible refine rd_ir ?_
  | with_reducible refine rd_dput ?_
  | with_reducible refine rd_dget ?_
  | ((with_reducible refine' rd_ilx ?s ?_); (case s => walk_at "hp"))
  | ((with_reducible refine' rd_itx ?s ?_); (case s => walk_at "hp"))
  | ((with_reducible refine' rd_getK ?s ?e ?_); (case s => walk_at "hp"); (case e => assumption))
  | ((with_reducible refine rd_newT rfl ?_); intro _ _ _ _ _)
  | ((with_reducible refine rd_newL rfl ?_); intro _ _ _ _ _)
  | ((with_reducible refine' rd_taken ?a ?b ?c ?_); (case a => walk_at "hp"); (case b => first | omega | decide); (case c => first | omega | decide); intro _ _ _ _ _)
  | ((with_reducible refine' rd_neE ?a ?b ?_); (case a => walk_at "hp"); (case b => walk_at "hp"))
  | ((with_reducible refine' rd_eqE ?a ?b ?_); (case a => walk_at "hp"); (case b => walk_at "hp"))
  | with_reducible refine rd_eq rfl ?_
  | with_reducible refine rd_ne rfl ?_
  | with_reducible refine rd_bl ?_
  | ((with_reducible refine rd_I ?c ?_); (case c => first | assumption | omega | decide | (exact Or.inl ⟨by omega, by omega⟩) | (exact ⟨by omega, by omega⟩) | (exact ⟨by decide, by decide, by decide⟩)))
  | refine Or.inl ⟨_, rfl, ?_⟩
  | refine Or.inr ⟨_, rfl, ?_⟩
  | ((with_reducible refine' rd_lenL ?s ?_); (case s => walk_at "hp"))
  | ((with_reducible refine' rd_lenT ?s ?_); (case s => walk_at "hp"))
  | ((with_reducible refine' rd_ixL ?s ?e ?_); (case s => walk_at "hp"); (case e => first | assumption | with_reducible exact EW.at_head | exact rfl))
  | ((with_reducible refine' rd_ixT ?s ?e ?_); (case s => walk_at "hp"); (case e => first | assumption | with_reducible exact EW.at_head | exact rfl))
  | ((with_reducible refine' rd_flx ?s ?c ?n ?l ?_); (case s => walk_at "hp"); (case c => assumption); (case n => assumption); (case l => assumption)))
local macro_rules | `(tactic| walk_at "go") => `(tactic| repeat (walk_at "st"))
local macro_rules | `(tactic| walk_at "gi") => `(tactic| repeat (first | with_reducible refine rd_if ?_ | walk_at "st"))
namespace EW
open PySem L2
def spLaw (K : PySem.W.Frag) : Sp := fun vs H Q _ => ∃ (a : Addr) (ns : List Int) (S : List Addr), vs = [.ref a] ∧ ScrAt K H a ns S ∧ ns.length ≤ 63 ∧ ∀ H', Q (.bl true) H'
/-- a case: a program, how it faults where its part does not -/
structure CaseOk (p : E) (r : Res) (t : List Ev) (c : E × Out) : Prop where
  wf : c.1.Wf []
  dp : c.1.depth ≤ 7
  sz : c.1.size ≤ 60
  run : ∃ r' t', Run c.1 40 r' t' ∧ r'.oc = ftOc r.oc c.2 ∧ ∀ n, Looked .flat p t n → Looked .flat c.1 t' n
def CaseAt (H : Hp) (c : E × Out) (x : V) : Prop := ∃ pt pw pf, x = .ref pt ∧ H pt = some (.tup [.ref pw, .ref pf]) ∧ RE H c.1 (.ref pw) ∧ OcAt H (.out c.2) (.ref pf)
theorem CaseAt.mono {H H' : Hp} (k : Tups H H') {c : E × Out} {x : V} : CaseAt H c x → CaseAt H' c x := fun ⟨pt, pw, pf, e, h, r, o⟩ => ⟨pt, pw, pf, e, k _ _ h, r.mono k, o.mono k⟩
def casesOf (p : E) : List (E × Out) := [(.plus maker p, .number), (.plus p maker, .number), (.call (.num 1) p, .function), (f4E p, .function)]
theorem casesOk {p : E} {r : Res} {t : List Ev} (w : p.Wf []) (d : p.depth ≤ 5) (s : p.size ≤ 26) (x : Run p 40 r t) : ∀ c ∈ casesOf p, CaseOk p r t c := fun c hc => by
  have dm : maker.depth = 2 := rfl
  have sm : maker.size = 4 := rfl
  unfold casesOf at hc
  simp only [List.mem_cons, List.not_mem_nil, or_false] at hc
  rcases hc with rfl | rfl | rfl | rfl
  · obtain ⟨r', h1, h2⟩ := f1 x
    exact ⟨⟨maker_wf, w⟩, by show 1 + max maker.depth p.depth ≤ 7; omega, by show 1 + (maker.size + p.size) ≤ 60; omega, r', _, h1, h2, fun n h => f1_looked w x h⟩
  · obtain ⟨r', t', h1, h2, h3⟩ := f2 x
    exact ⟨⟨w, maker_wf⟩, by show 1 + max p.depth maker.depth ≤ 7; omega, by show 1 + (p.size + maker.size) ≤ 60; omega, r', _, h1, h2, fun n h => f2_looked w x h h3⟩
  · obtain ⟨r', h1, h2⟩ := f3 x
    exact ⟨⟨by show 1 < 1000; decide, w⟩, by show 1 + max 0 p.depth ≤ 7; omega, by show 1 + (1 + p.size) ≤ 60; omega, r', _, h1, h2, fun n h => f3_looked w x h⟩
  · obtain ⟨r', u, h1, h2, h3⟩ := f4 x
    exact ⟨⟨by decide, w, by show 2 < 1000; decide, maker_wf.mono (fun _ h => absurd h List.not_mem_nil)⟩, by show 1 + max p.depth (1 + max 0 maker.depth) ≤ 7; omega, by show 1 + (p.size + (1 + (1 + maker.size))) ≤ 60; omega, r', _, h1, h2, fun n h => f4_looked w x h h3⟩
theorem isVal_in (o : Oc) : inV (.str o.w) [.str "end", .str "function"] = !isOut o := by
  cases o with
  | num n => simp only [Oc.w, isOut]; decide +kernel
  | fn n => simp only [Oc.w, isOut]; decide +kernel
  | out x => cases x <;> simp only [Oc.w, isOut] <;> decide +kernel
theorem ftOc_out {o : Oc} {f : Out} : ∃ x, ftOc o f = .out x := by cases o <;> exact ⟨_, rfl⟩
theorem ftOc_isOut {o : Oc} {f : Out} (h : isOut o = true) : ftOc o f = o := by cases o <;> first | rfl | cases h
theorem ftOc_not {o : Oc} {f : Out} (h : isOut o = false) : ftOc o f = .out f := by cases o <;> first | rfl | cases h
section
variable {P : Program} {w : World} {K : PySem.W.Frag} {mg : Str → Option Value} {base : Heap} {a_SHAPES C_Sites C_Run C_Function a_WAYS : Addr}
theorem ok_law {f : Addr} {fd : FuncData} (A : At K mg "law" s_law ["_law_script"] f fd) (T : TxtH K w mg a_SHAPES C_Sites C_Run C_Function a_WAYS)
    (c__law_any : Has P w K mg base "_law_any" ["_law_row"] 8 (spAny K)) (c__law_taken : Has P w K mg base "_law_taken" ["_law_row", "_law_many"] 1 (spTaken K)) (c_ran : Has P w K mg base "ran" ["program", "most"] 14 spRan)
    (c_looked : Has P w K mg base "looked" ["program", "way", "most"] 14 (spLooked C_Run C_Function C_Sites)) (c_kept : Has P w K mg base "kept" ["program", "way", "most"] 14 spKept0) (c_lasts : Has P w K mg base "lasts" ["program", "most"] 14 spLasts) :
    FnOk P w K mg base CX0 15 f fd ["_law_script"] (spLaw K) := by
  obtain ⟨f__law_any, fd__law_any, G__law_any, m__law_any, k__law_any, b__law_any⟩ := c__law_any
  obtain ⟨f__law_taken, fd__law_taken, G__law_taken, m__law_taken, k__law_taken, b__law_taken⟩ := c__law_taken
  obtain ⟨f_ran, fd_ran, G_ran, m_ran, k_ran, b_ran⟩ := c_ran
  obtain ⟨f_looked, fd_looked, G_looked, m_looked, k_looked, b_looked⟩ := c_looked
  obtain ⟨f_kept, fd_kept, G_kept, m_kept, k_kept, b_kept⟩ := c_kept
  obtain ⟨f_lasts, fd_lasts, G_lasts, m_lasts, k_lasts, b_lasts⟩ := c_lasts
  refine A.F.ok sc_law (fun vs H Q EE h => ?_) (fun cdv A outer s H vs Q EE hr h => ?_)
  · obtain ⟨_, _, _, rfl, _⟩ := h
    rfl
  obtain ⟨a, ns, S, rfl, hscr, hlen, q⟩ := h
  have hu := hu_of hr
  refine ⟨_, (pss_cons (ps_set (i := 1) sc_law.nd rfl (Or.inl rfl) (pe_lst (pa_cons (pv 0) (pa_cons pe_int (pa_cons pe_int (pa_cons pe_int pa_nil))))))
      (pss_cons (ps_set (i := 2) sc_law.nd rfl (Or.inl rfl) (pe_tup (pa_cons pe_str (pa_cons pe_int (pa_cons (pe_tup (pa_cons pe_str (pa_cons (pe_tup (pa_cons pe_str (pa_cons pe_int pa_nil))) (pa_cons (pe_tup (pa_cons pe_str (pa_cons pe_int pa_nil))) pa_nil)))) pa_nil)))))
      (pss_cons (ps_for PassesOwn.never rfl (pi_range1 (by rfl) T.z_range (pa_cons pe_int pa_nil)) (pg_name (i := 3) sc_law.nd rfl (Or.inl rfl))
        (pss_cons (ps_par (i := 4) (j := 5) (by rfl) sc_law.nd rfl rfl (by decide) rfl rfl (pa_cons (pe_call G__law_any (hr.mono (by first | decide | omega)) (by rfl) m__law_any k__law_any b__law_any .nil pass0 (pa_cons (pv 1) pa_nil)) (pa_cons (pe_call G__law_taken (hr.mono (by first | decide | omega)) (by rfl) m__law_taken k__law_taken b__law_taken .nil pass0 (pa_cons (pv 1) (pa_cons pe_int pa_nil))) pa_nil)) (by rfl))
        (pss_cons (ps_set (i := 6) sc_law.nd rfl (Or.inl rfl) (pe_call G_ran (hr.mono (by first | decide | omega)) (by rfl) m_ran k_ran b_ran .nil pass0 (pa_cons (pv 4) (pa_cons pe_int pa_nil))))
        (pss_cons (ps_set (i := 7) sc_law.nd rfl (Or.inl rfl) (pe_lst (pa_cons (pe_tup (pa_cons (pe_tup (pa_cons pe_str (pa_cons (pv 2) (pa_cons (pv 4) pa_nil)))) (pa_cons (pe_tup (pa_cons pe_str (pa_cons pe_str pa_nil))) pa_nil))) (pa_cons (pe_tup (pa_cons (pe_tup (pa_cons pe_str (pa_cons (pv 4) (pa_cons (pv 2) pa_nil)))) (pa_cons (pe_tup (pa_cons pe_str (pa_cons pe_str pa_nil))) pa_nil))) pa_nil))))
        (pss_cons (ps_set (i := 7) sc_law.nd rfl (Or.inl rfl) (pe_op op_cat (pv 7) (pe_lst (pa_cons (pe_tup (pa_cons (pe_tup (pa_cons pe_str (pa_cons (pe_tup (pa_cons pe_str (pa_cons pe_int pa_nil))) (pa_cons (pv 4) pa_nil)))) (pa_cons (pe_tup (pa_cons pe_str (pa_cons pe_str pa_nil))) pa_nil))) pa_nil))))
        (pss_cons (ps_set (i := 7) sc_law.nd rfl (Or.inl rfl) (pe_op op_cat (pv 7) (pe_lst (pa_cons (pe_tup (pa_cons (pe_tup (pa_cons pe_str (pa_cons pe_int (pa_cons (pv 4) (pa_cons (pe_tup (pa_cons pe_str (pa_cons (pe_tup (pa_cons pe_str (pa_cons pe_int pa_nil))) (pa_cons (pv 2) pa_nil)))) pa_nil))))) (pa_cons (pe_tup (pa_cons pe_str (pa_cons pe_str pa_nil))) pa_nil))) pa_nil))))
        (pss_cons (ps_for PassesOwn.never rfl (w_piL (K := K) rfl (pv 7)) (w_pgT (K := K) rfl rfl (pgs_cons (pg_name (i := 8) sc_law.nd rfl (Or.inl rfl)) (pgs_cons (pg_name (i := 9) sc_law.nd rfl (Or.inl rfl)) pgs_nil)) rfl rfl)
          (pss_cons (ps_if (pt_cmpR (w_neD (K := K) rfl hr.units) (pe_call G_ran (hr.mono (by first | decide | omega)) (by rfl) m_ran k_ran b_ran .nil pass0 (pa_cons (pv 8) (pa_cons pe_int pa_nil))) (pe_ifExp (pt_cmpR (w_in (K := K) rfl) (pe_ix (w_ixT (K := K) rfl) (pv 6) pe_int (fun _ _ => rfl)) (pe_tup (pa_cons pe_str (pa_cons pe_str pa_nil))) rfl) (pv 6) (pv 9)) (nomark _))
            (pss_one (ps_ret pe_bl))
            pss_nil)
          (pss_one (ps_if (PW.pt (pw_or (pt_cmpR (op_neE hr.units0) (pe_call G_kept (hr.mono (by first | decide | omega)) (by rfl) m_kept k_kept b_kept .nil pass0 (pa_cons (pv 8) (pa_cons pe_str (pa_cons pe_int pa_nil)))) (pe_lst pa_nil) (nomark _)) (pw_or1 (pt_cmpR op_ne (pe_call G_looked (hr.mono (by first | decide | omega)) (by rfl) m_looked k_looked b_looked .nil pass0 (pa_cons (pv 8) (pa_cons pe_str (pa_cons pe_int pa_nil)))) (pe_call G_looked (hr.mono (by first | decide | omega)) (by rfl) m_looked k_looked b_looked .nil pass0 (pa_cons (pv 4) (pa_cons pe_str (pa_cons pe_int pa_nil)))) (nomark _)))))
            (pss_one (ps_ret pe_bl))
            pss_nil))))
        (pss_cons (ps_if (PW.pt (pw_and (pt_cmpR op_eq (pe_ix (w_ixT (K := K) rfl) (pv 6) pe_int (fun _ _ => rfl)) pe_str (nomark _)) (pw_and1 (pt_cmpR (w_neD (K := K) rfl hr.units) (pe_call G_ran (hr.mono (by first | decide | omega)) (by rfl) m_ran k_ran b_ran .nil pass0 (pa_cons (pe_tup (pa_cons pe_str (pa_cons (pv 2) (pa_cons (pv 4) pa_nil)))) (pa_cons pe_int pa_nil))) (pe_tup (pa_cons pe_str (pa_cons (pe_op op_modN (pe_callTy call_int1 (by rfl) T.z_int (by decide +kernel) (pa_cons (pe_op op_add (pe_ix (w_ixT (K := K) rfl) (pv 6) pe_int (fun _ _ => rfl)) pe_int) pa_nil)) pe_int) pa_nil))) (nomark _)))))
          (pss_one (ps_ret pe_bl))
          pss_nil)
        (pss_cons (ps_if (PW.pt (pw_and (pt_cmpR op_eq (pe_ix (w_ixT (K := K) rfl) (pv 6) pe_int (fun _ _ => rfl)) pe_str (nomark _)) (pw_and1 (pt_cmpR (w_neD (K := K) rfl hr.units) (pe_call G_ran (hr.mono (by first | decide | omega)) (by rfl) m_ran k_ran b_ran .nil pass0 (pa_cons (pe_tup (pa_cons pe_str (pa_cons (pv 2) (pa_cons (pv 4) pa_nil)))) (pa_cons pe_int pa_nil))) (pe_tup (pa_cons pe_str (pa_cons pe_str pa_nil))) (nomark _)))))
          (pss_one (ps_ret pe_bl))
          pss_nil)
        (pss_cons (ps_set (i := 10) sc_law.nd rfl (Or.inl rfl) (pe_call G_ran (hr.mono (by first | decide | omega)) (by rfl) m_ran k_ran b_ran .nil pass0 (pa_cons (pe_tup (pa_cons pe_str (pa_cons (pe_tup (pa_cons pe_str (pa_cons (pv 5) pa_nil))) (pa_cons (pv 4) pa_nil)))) (pa_cons pe_int pa_nil))))
        (pss_cons (ps_if (PW.pt (pw_and (pt_cmpR op_eq (pe_ix (w_ixT (K := K) rfl) (pv 6) pe_int (fun _ _ => rfl)) pe_str (nomark _)) (pw_and1 (pt_cmpR (w_neD (K := K) rfl hr.units) (pv 10) (pe_tup (pa_cons pe_str (pa_cons (pe_op op_modN (pe_callTy call_int1 (by rfl) T.z_int (by decide +kernel) (pa_cons (pe_op op_add (pe_ix (w_ixT (K := K) rfl) (pv 6) pe_int (fun _ _ => rfl)) (pv 5)) pa_nil)) pe_int) pa_nil))) (nomark _)))))
          (pss_one (ps_ret pe_bl))
          pss_nil)
        (pss_cons (ps_if (PW.pt (pw_and (pt_cmpR op_eq (pe_ix (w_ixT (K := K) rfl) (pv 6) pe_int (fun _ _ => rfl)) pe_str (nomark _)) (pw_and1 (pt_cmpR (w_notIn (K := K) rfl) (pe_ix (w_ixT (K := K) rfl) (pe_call G_ran (hr.mono (by first | decide | omega)) (by rfl) m_ran k_ran b_ran .nil pass0 (pa_cons (pe_tup (pa_cons pe_str (pa_cons (pv 4) (pa_cons (pv 4) pa_nil)))) (pa_cons pe_int pa_nil))) pe_int (fun _ _ => rfl)) (pe_tup (pa_cons pe_str (pa_cons pe_str pa_nil))) rfl))))
          (pss_one (ps_ret pe_bl))
          pss_nil)
        (pss_cons (ps_set (i := 11) sc_law.nd rfl (Or.inl rfl) (pe_tup (pa_cons pe_str (pa_cons pe_int (pa_cons (pv 4) (pa_cons (pe_tup (pa_cons pe_str (pa_cons pe_int (pa_cons (pv 4) (pa_cons (pe_tup (pa_cons pe_str (pa_cons (pv 5) pa_nil))) pa_nil))))) pa_nil))))))
        (pss_cons (ps_set (i := 12) sc_law.nd rfl (Or.inl rfl) (pe_call G_ran (hr.mono (by first | decide | omega)) (by rfl) m_ran k_ran b_ran .nil pass0 (pa_cons (pv 11) (pa_cons pe_int pa_nil))))
        (pss_cons (ps_if (PW.pt (pw_and (pt_cmpR (w_in (K := K) rfl) (pe_ix (w_ixT (K := K) rfl) (pv 6) pe_int (fun _ _ => rfl)) (pe_tup (pa_cons pe_str (pa_cons pe_str pa_nil))) rfl) (pw_and1 (pt_cmpR (w_notIn (K := K) rfl) (pe_ix (w_ixT (K := K) rfl) (pv 12) pe_int (fun _ _ => rfl)) (pe_tup (pa_cons pe_str (pa_cons pe_str pa_nil))) rfl))))
          (pss_one (ps_ret pe_bl))
          pss_nil)
        (pss_one (ps_if (PW.pt (pw_and (pt_cmpR op_eq (pe_ix (w_ixT (K := K) rfl) (pv 12) pe_int (fun _ _ => rfl)) pe_str (nomark _)) (pw_and1 (PW.pt (pw_or (pt_cmpR op_ne (pe_ix (w_ixT (K := K) rfl) (pv 12) pe_int (fun _ _ => rfl)) (pv 5) (nomark _)) (pw_or1 (pt_cmpR op_ne (pe_callB (w_len (K := K) rfl) (by rfl) T.z_len PySem.boot_len (pa_cons (pe_call G_lasts (hr.mono (by first | decide | omega)) (by rfl) m_lasts k_lasts b_lasts .nil pass0 (pa_cons (pv 11) (pa_cons pe_int pa_nil))) pa_nil)) (pe_op op_add (pe_op op_mul pe_int (pe_callB (w_len (K := K) rfl) (by rfl) T.z_len PySem.boot_len (pa_cons (pe_call G_lasts (hr.mono (by first | decide | omega)) (by rfl) m_lasts k_lasts b_lasts .nil pass0 (pa_cons (pv 4) (pa_cons pe_int pa_nil))) pa_nil))) pe_int) (nomark _))))))))
          (pss_one (ps_ret pe_bl))
          pss_nil)))))))))))))))))
      (pss_one (ps_ret pe_bl))))), ?_⟩
  refine at_st (σ' := [some (.ref a), none, none, none, none, none, none, none, none, none, none, none, none]) rfl ?_
  walk_at "go"
  rename_i row H1 n1 k1 h1 pn Hn nn kn hn po Ho no ko ho pp Hp np kp hp pm H5 nm km hm
  have hrow1 : RowAt K H1 row S := ⟨a, ns, 0, 0, 0, h1, hscr.keep k1 dis0, hscr.notin n1, hlen, by decide, by decide, by decide⟩
  have k15 : Kp [] H1 H5 := kn.trans (ko.trans (kp.trans km))
  have hrow : RowAt K H5 row S := hrow1.keep k15 ne_mem0 dis0
  have remk : RE H5 maker (.ref pm) := ⟨pm, .ref pp, rfl, hm, ⟨pp, .ref pn, .ref po, rfl, km.tup _ _ hp, ⟨pn, rfl, km.tup _ _ (kp.tup _ _ (ko.tup _ _ hn))⟩, ⟨po, rfl, km.tup _ _ (kp.tup _ _ ho)⟩⟩⟩
  clear k15 hrow1 hn ho hp hm kn ko kp km h1 k1 n1 nn no np nm hscr
  refine ⟨5, rfl, by decide, by decide, ?_⟩
  refine for_range (n := 5) (fun i σ' H' => ∃ v3 v4 v5 v6 v7 v8 v9 v10 v11 v12 : Option V, σ' = [some (.ref a), some (.ref row), some (.ref pm), v3, v4, v5, v6, v7, v8, v9, v10, v11, v12] ∧ RowAt K H' row S ∧ RE H' maker (.ref pm)) ⟨none, none, none, none, none, none, none, none, none, none, rfl, hrow, remk⟩ ?_ ?_
  · clear hrow remk
    rintro i _ H2 hi ⟨v3, v4, v5, v6, v7, v8, v9, v10, v11, v12, rfl, hrow2, rem2⟩
    refine rd_name ?_
    walk_at "go"
    refine rd_any hrow2 fun p u H3 wp dp sp rp hrow3 k3 => ?_
    have rem3 := rem2.mono k3.tup
    clear k3 hrow2 rem2
    walk_at "go"
    rename_i num H4 hnum hrow4 k4
    have rp4 := rp.mono k4.tup
    have rem4 := rem3.mono k4.tup
    clear rp rem3 k4
    refine rd_ran (most := 40) rp4 wp (by omega) (by omega) (by decide) fun r t o H5 x oc k5 => ?_
    obtain ⟨po, rfl, hpo⟩ := oc.oc
    have rp5 := rp4.mono k5.tup
    have rem5 := rem4.mono k5.tup
    have hrow5 : RowAt K H5 row S := hrow4.keep k5 ne_mem0 dis0
    clear rp4 rem4 k5 hrow4 oc hrow3
    walk_at "go"
    rename_i a1 Ha1 na1 ka1 ha1 g1 Hg1 ng1 kg1 hg1 q1 Hq1 nq1 kq1 hq1 a2 Ha2 na2 ka2 ha2 g2 Hg2 ng2 kg2 hg2 q2 Hq2 nq2 kq2 hq2 l1 Hl1 nl1 kl1 hl1 m1 Hm1 nm1 km1 hm1 a3 Ha3 na3 ka3 ha3 g3 Hg3 ng3 kg3 hg3 q3 Hq3 nq3 kq3 hq3 l2 Hl2 nl2 kl2 hl2
    have kL : Kp [] H5 Hl2 := ka1.trans (kg1.trans (kq1.trans (ka2.trans (kg2.trans (kq2.trans (kl1.trans (km1.trans (ka3.trans (kg3.trans (kq3.trans (kl2)))))))))))
    have rpL := rp5.mono kL.tup
    have remL := rem5.mono kL.tup
    have c1 : CaseAt Hl2 (.plus maker p, .number) (.ref q1) := ⟨q1, a1, g1, rfl, (kl2.tup _ _ (kq3.tup _ _ (kg3.tup _ _ (ka3.tup _ _ (km1.tup _ _ (kl1.tup _ _ (kq2.tup _ _ (kg2.tup _ _ (ka2.tup _ _ hq1))))))))), ⟨a1, _, _, rfl, (kl2.tup _ _ (kq3.tup _ _ (kg3.tup _ _ (ka3.tup _ _ (km1.tup _ _ (kl1.tup _ _ (kq2.tup _ _ (kg2.tup _ _ (ka2.tup _ _ (kq1.tup _ _ (kg1.tup _ _ ha1))))))))))), remL, rpL⟩, ⟨g1, rfl, (kl2.tup _ _ (kq3.tup _ _ (kg3.tup _ _ (ka3.tup _ _ (km1.tup _ _ (kl1.tup _ _ (kq2.tup _ _ (kg2.tup _ _ (ka2.tup _ _ (kq1.tup _ _ hg1))))))))))⟩⟩
    have c2 : CaseAt Hl2 (.plus p maker, .number) (.ref q2) := ⟨q2, a2, g2, rfl, (kl2.tup _ _ (kq3.tup _ _ (kg3.tup _ _ (ka3.tup _ _ (km1.tup _ _ (kl1.tup _ _ hq2)))))), ⟨a2, _, _, rfl, (kl2.tup _ _ (kq3.tup _ _ (kg3.tup _ _ (ka3.tup _ _ (km1.tup _ _ (kl1.tup _ _ (kq2.tup _ _ (kg2.tup _ _ ha2)))))))), rpL, remL⟩, ⟨g2, rfl, (kl2.tup _ _ (kq3.tup _ _ (kg3.tup _ _ (ka3.tup _ _ (km1.tup _ _ (kl1.tup _ _ (kq2.tup _ _ hg2)))))))⟩⟩
    have c3 : CaseAt Hl2 (.call (.num 1) p, .function) (.ref q3) := ⟨q3, a3, g3, rfl, (kl2.tup _ _ hq3), ⟨a3, _, _, rfl, (kl2.tup _ _ (kq3.tup _ _ (kg3.tup _ _ ha3))), ⟨m1, rfl, (kl2.tup _ _ (kq3.tup _ _ (kg3.tup _ _ (ka3.tup _ _ hm1))))⟩, rpL⟩, ⟨g3, rfl, (kl2.tup _ _ (kq3.tup _ _ hg3))⟩⟩
    have hpoL := kL.tup _ _ hpo
    have hrowL : RowAt K Hl2 row S := hrow5.keep kL ne_mem0 dis0
    have hl1L : Hl2 l1 = some (.lst [.ref q1, .ref q2]) := (km1.trans (ka3.trans (kg3.trans (kq3.trans (kl2))))).keep _ _ hl1 ne_mem0
    clear kL rp5 rem5 hpo hrow5 ka1 kg1 kq1 ka2 kg2 kq2 kl1 km1 ka3 kg3 kq3 kl2 na1 ng1 nq1 na2 ng2 nq2 nl1 nm1 na3 ng3 nq3 nl2 ha1 hg1 hq1 ha2 hg2 hq2 hl1 hm1 ha3 hg3 hq3
    refine rd_cat hl1L hl2 (by show 2 + 1 ≤ 1000000; decide) ?_
    refine rd_newO fun l3 H6 nl3 k6 hl3 => ?_
    have rp6 := rpL.mono k6.tup
    have rem6 := remL.mono k6.tup
    have c1 := c1.mono k6.tup
    have c2 := c2.mono k6.tup
    have c3 := c3.mono k6.tup
    have hpo6 := k6.tup _ _ hpoL
    have hrow6 : RowAt K H6 row S := hrowL.keep k6 ne_mem0 dis0
    clear k6 rpL remL hpoL hrowL hl1L hl2 nl3
    walk_at "go"
    rename_i m2 Hm2 nm2 km2 hm2 a4 Ha4 na4 ka4 ha4 b4 Hb4 nb4 kb4 hb4 g4 Hg4 ng4 kg4 hg4 q4 Hq4 nq4 kq4 hq4 l4 Hl4 nl4 kl4 hl4
    have kM : Kp [] H6 Hl4 := km2.trans (ka4.trans (kb4.trans (kg4.trans (kq4.trans kl4))))
    have rpM := rp6.mono kM.tup
    have remM := rem6.mono kM.tup
    have c4 : CaseAt Hl4 (f4E p, .function) (.ref q4) := ⟨q4, b4, g4, rfl, kl4.tup _ _ hq4, ⟨b4, _, _, rfl, kl4.tup _ _ (kq4.tup _ _ (kg4.tup _ _ hb4)), rpM, ⟨a4, _, _, rfl, kl4.tup _ _ (kq4.tup _ _ (kg4.tup _ _ (kb4.tup _ _ ha4))), ⟨m2, rfl, kl4.tup _ _ (kq4.tup _ _ (kg4.tup _ _ (kb4.tup _ _ (ka4.tup _ _ hm2))))⟩, remM⟩⟩, ⟨g4, rfl, kl4.tup _ _ (kq4.tup _ _ hg4)⟩⟩
    have c1 := c1.mono kM.tup
    have c2 := c2.mono kM.tup
    have c3 := c3.mono kM.tup
    have hpoM := kM.tup _ _ hpo6
    have hrowM : RowAt K Hl4 row S := hrow6.keep kM ne_mem0 dis0
    have hl3M := kM.keep _ _ hl3 ne_mem0
    clear kM km2 ka4 kb4 kg4 kq4 kl4 hm2 ha4 hb4 hg4 hq4 nm2 na4 nb4 ng4 nq4 nl4 rp6 rem6 hpo6 hrow6 hl3
    refine rd_cat hl3M hl4 (by show 3 + 1 ≤ 1000000; decide) ?_
    refine rd_newO fun l5 H7 nl5 k7 hl5 => ?_
    have rp7 := rpM.mono k7.tup
    have rem7 := remM.mono k7.tup
    have hpo7 := k7.tup _ _ hpoM
    have hrow7 : RowAt K H7 row S := hrowM.keep k7 ne_mem0 dis0
    have cs7 : R2 (CaseAt H7) (casesOf p) [.ref q1, .ref q2, .ref q3, .ref q4] := ⟨c1.mono k7.tup, c2.mono k7.tup, c3.mono k7.tup, c4.mono k7.tup, trivial⟩
    have hl5' : H7 l5 = some (.lst [.ref q1, .ref q2, .ref q3, .ref q4]) := hl5
    have csok := casesOk wp dp sp x
    have dp7 : p.depth ≤ 7 := by omega
    have sp60 : p.size ≤ 60 := by omega
    clear k7 rpM remM hpoM hrowM c1 c2 c3 c4 hl3M hl4 hl5 nl5
    walk_at "go"
    refine for_list (K := K) (a := l5) (xs := [.ref q1, .ref q2, .ref q3, .ref q4]) (fun _ σ' H' => ∃ v8 v9, σ' = [some (.ref a), some (.ref row), some (.ref pm), some (.int (0 + (i : Int))), some u, some (nV num), some (.ref po), some (.ref l5), v8, v9, v10, v11, v12] ∧ Kp [] H7 H') ⟨v8, v9, rfl, Kp.refl⟩ ?_ ?_ ?_
    · rintro j _ H' _ ⟨_, _, rfl, k⟩
      exact SqL.of (k.keep _ _ hl5' ne_mem0)
    · rintro j xw _ H8 hj ⟨v8, v9, rfl, k8⟩
      obtain ⟨c, hc, hcx⟩ := cs7.mem xw (List.mem_of_getElem? hj)
      have cok := csok c hc
      obtain ⟨ptc, pw, pf, rfl, hptc, rw7, hof⟩ := hcx
      obtain ⟨r', t', xw, eo, lk⟩ := cok.run
      have rw8 := rw7.mono k8.tup
      have rp8 := rp7.mono k8.tup
      have hpo8 := k8.tup _ _ hpo7
      have hof8 := hof.mono k8.tup
      have hptc8 := k8.tup _ _ hptc
      refine ⟨ptc, [.ref pw, .ref pf], rfl, SqT.of hptc8, rfl, ?_⟩
      refine ⟨_, _, rfl, rd_name ?_⟩
      refine ⟨_, _, rfl, rd_name ?_⟩
      refine ⟨rfl, ?_⟩
      cases hio : isOut r.oc with
      | true =>
        walk_at "gi"
        refine rd_ran (most := 40) rw8 cok.wf cok.dp cok.sz (by decide) fun r'' t'' o' H9 x' oc' k9 => ?_
        obtain ⟨rfl, rfl⟩ := xw.det x'
        walk_at "go"
        rename_i pin H10 nin k10 hin
        refine rd_inT (SqT.of hin) rfl rfl ?_
        rw [isOut_in, hio]
        walk_at "go"
        refine rd_neOc (o := r'.oc) (oc'.oc.mono k10.tup) (by rw [eo, ftOc_isOut hio]; exact ⟨po, rfl, (k9.trans k10).tup _ _ hpo8⟩) ?_
        have k8 := k8.trans (k9.trans k10)
        have rp10 := rp8.mono (k9.trans k10).tup
        have rw10 := rw8.mono (k9.trans k10).tup
        clear k9 k10 hin nin rp8 rw8 hpo8 hof8 hptc8
        walk_at "gi"
        refine rd_kept0 .tied (most := 40) rw10 cok.wf cok.dp cok.sz (by decide) (fun r3 t3 x3 s z => by rw [← (xw.det x3).1, eo] at z; obtain ⟨oz, hz⟩ := ftOc_out (o := r.oc) (f := c.2); rw [hz] at z; cases z) fun rl H11 nrl hrl k11 => ?_
        walk_at "go"
        rename_i l0 H12 nl0 k12 hl0
        refine rd_looked .flat (most := 40) (rw10.mono (k11.trans k12).tup) cok.wf cok.dp cok.sz (by decide) fun r3 t3 nb H13 x3 l3 k13 => ?_
        obtain ⟨_, rfl⟩ := xw.det x3
        walk_at "go"
        refine rd_looked .flat (most := 40) (rp10.mono (k11.trans (k12.trans k13)).tup) wp dp7 sp60 (by decide) fun r4 t4 m1 H14 x4 l4 k14 => ?_
        obtain ⟨_, rfl⟩ := x.det x4
        have en := l3.det (lk m1 l4)
        walk_at "go"
        refine ne_int (by omega) ?_
        walk_at "gi"
        exact ⟨_, _, rfl, k8.trans (k11.trans (k12.trans (k13.trans k14)))⟩
      | false =>
        walk_at "gi"
        refine rd_ran (most := 40) rw8 cok.wf cok.dp cok.sz (by decide) fun r'' t'' o' H9 x' oc' k9 => ?_
        obtain ⟨rfl, rfl⟩ := xw.det x'
        walk_at "go"
        rename_i pin H10 nin k10 hin
        refine rd_inT (SqT.of hin) rfl rfl ?_
        rw [isOut_in, hio]
        walk_at "go"
        refine rd_neOc (o := r'.oc) (oc'.oc.mono k10.tup) (by rw [eo, ftOc_not hio]; exact hof8.mono (k9.trans k10).tup) ?_
        have k8 := k8.trans (k9.trans k10)
        have rp10 := rp8.mono (k9.trans k10).tup
        have rw10 := rw8.mono (k9.trans k10).tup
        clear k9 k10 hin nin rp8 rw8 hpo8 hof8 hptc8
        walk_at "gi"
        refine rd_kept0 .tied (most := 40) rw10 cok.wf cok.dp cok.sz (by decide) (fun r3 t3 x3 s z => by rw [← (xw.det x3).1, eo] at z; obtain ⟨oz, hz⟩ := ftOc_out (o := r.oc) (f := c.2); rw [hz] at z; cases z) fun rl H11 nrl hrl k11 => ?_
        walk_at "go"
        rename_i l0 H12 nl0 k12 hl0
        refine rd_looked .flat (most := 40) (rw10.mono (k11.trans k12).tup) cok.wf cok.dp cok.sz (by decide) fun r3 t3 nb H13 x3 l3 k13 => ?_
        obtain ⟨_, rfl⟩ := xw.det x3
        walk_at "go"
        refine rd_looked .flat (most := 40) (rp10.mono (k11.trans (k12.trans k13)).tup) wp dp7 sp60 (by decide) fun r4 t4 m1 H14 x4 l4 k14 => ?_
        obtain ⟨_, rfl⟩ := x.det x4
        have en := l3.det (lk m1 l4)
        walk_at "go"
        refine ne_int (by omega) ?_
        walk_at "gi"
        exact ⟨_, _, rfl, k8.trans (k11.trans (k12.trans (k13.trans k14)))⟩
    · rintro _ H8 ⟨v8, v9, rfl, k8⟩
      clear cs7 csok hl5'
      have dmk : maker.depth = 2 := rfl
      have smk : maker.size = 4 := rfl
      have wcm : (EW.E.call maker p).Wf [] := ⟨maker_wf, wp⟩
      have dcm : (EW.E.call maker p).depth ≤ 7 := by show 1 + max maker.depth p.depth ≤ 7; omega
      have scm : (EW.E.call maker p).size ≤ 60 := by show 1 + (maker.size + p.size) ≤ 60; omega
      have lx : nact t ≤ 40 := x.le
      with_reducible refine rd_seqJ (fun σ' H' => ∃ v8 v9, σ' = [some (.ref a), some (.ref row), some (.ref pm), some (.int (0 + (i : Int))), some u, some (nV num), some (.ref po), some (.ref l5), v8, v9, v10, v11, v12] ∧ Kp [] H7 H') ?_ fun Z hZ => ?_
      · rintro _ Hb ⟨v8, v9, rfl, kb⟩
        with_reducible refine rd_seqJ (fun σ' H' => ∃ v8 v9, σ' = [some (.ref a), some (.ref row), some (.ref pm), some (.int (0 + (i : Int))), some u, some (nV num), some (.ref po), some (.ref l5), v8, v9, v10, v11, v12] ∧ Kp [] H7 H') ?_ fun Z hZ => ?_
        · rintro _ Hc ⟨v8, v9, rfl, kc⟩
          have rpc := rp7.mono kc.tup
          walk_at "go"
          rename_i ma Ha na ka ha pa Hp nb kp hp
          have wpl : (EW.E.plus (.num num) p).Wf [] := ⟨by show num < 1000; omega, wp⟩
          have dpl : (EW.E.plus (.num num) p).depth ≤ 7 := by show 1 + max 0 p.depth ≤ 7; omega
          have spl : (EW.E.plus (.num num) p).size ≤ 60 := by show 1 + (1 + p.size) ≤ 60; omega
          have rpl : RE Hp (.plus (.num num) p) (.ref pa) := ⟨pa, _, _, rfl, hp, ⟨ma, rfl, kp.tup _ _ ha⟩, rpc.mono (ka.trans kp).tup⟩
          refine rd_ran (most := 40) rpl wpl dpl spl (by decide) fun ra ta oa Hd xa oca kd => ?_
          have kcd := kc.trans (ka.trans (kp.trans kd))
          have oca := oca.oc
          clear rpl kd kp ka ha hp na nb rpc kc
          walk_at "go"
          refine at_st (σ' := [some (.ref a), some (.ref row), some (.ref pm), some (.int (0 + (i : Int))), some u, some (nV num), some (.ref po), some (.ref l5), v8, v9, some oa, v11, v12]) rfl ?_
          refine rd_J (t := tIfS _ _ _) (fun σ' H' => ∃ v8 v9 xa, σ' = [some (.ref a), some (.ref row), some (.ref pm), some (.int (0 + (i : Int))), some u, some (nV num), some (.ref po), some (.ref l5), v8, v9, some xa, v11, v12] ∧ Kp [] H7 H' ∧ OcAt H' ra.oc xa) ?_ fun Z hZ => ?_
          · rintro _ He ⟨v8, v9, oa, rfl, ke, oce⟩
            clear oca kcd oce
            with_reducible refine rd_seqJ (fun σ' H' => ∃ v8 v9 v10, σ' = [some (.ref a), some (.ref row), some (.ref pm), some (.int (0 + (i : Int))), some u, some (nV num), some (.ref po), some (.ref l5), v8, v9, v10, v11, v12] ∧ Kp [] H7 H') ?_ fun Z hZ => ?_
            · rintro _ Hf ⟨v8, v9, v10, rfl, kf⟩
              have rpf := rp7.mono kf.tup
              walk_at "go"
              rename_i mb Hg ng kg hg pl Hh nh kh hh pb Hi ni ki hi'
              have wb : (bothE p num).Wf [] := ⟨by decide, wp, by decide, wp.mono (fun _ h => absurd h List.not_mem_nil), by show num < 1000; omega⟩
              have db : (bothE p num).depth ≤ 7 := by show 1 + max p.depth (1 + max p.depth 0) ≤ 7; omega
              have sb : (bothE p num).size ≤ 60 := by show 1 + (p.size + (1 + (p.size + 1))) ≤ 60; omega
              have rb : RE Hi (bothE p num) (.ref pb) := ⟨pb, _, _, rfl, hi', rpf.mono (kg.trans (kh.trans ki)).tup, ⟨pl, _, _, rfl, ki.tup _ _ hh, rpf.mono (kg.trans (kh.trans ki)).tup, ⟨mb, rfl, ki.tup _ _ (kh.tup _ _ hg)⟩⟩⟩
              refine rd_ran (most := 60) rb wb db sb (by decide) fun rt tt' ot Hj xt oct kj => ?_
              have kfj := kf.trans (kg.trans (kh.trans (ki.trans kj)))
              have rbj := rb.mono kj.tup
              obtain ⟨pt, rfl, hpt⟩ := oct.oc
              have hpoj := kfj.tup _ _ hpo7
              clear rb kg kh ki kj hg hh hi' ng nh ni kf rpf oct
              walk_at "go"
              refine at_st (σ' := [some (.ref a), some (.ref row), some (.ref pm), some (.int (0 + (i : Int))), some u, some (nV num), some (.ref po), some (.ref l5), v8, v9, v10, some (.ref pb), some (.ref pt)]) rfl ?_
              have alt := f8 (k := num) wp 60
              refine rd_J (t := tIfS _ _ _) (fun σ' H' => ∃ v8 v9 v10, σ' = [some (.ref a), some (.ref row), some (.ref pm), some (.int (0 + (i : Int))), some u, some (nV num), some (.ref po), some (.ref l5), v8, v9, v10, some (.ref pb), some (.ref pt)] ∧ Kp [] Hj H') ?_ fun Z hZ => ?_
              · rintro _ Hk ⟨v8, v9, v10, rfl, kk⟩
                have hptk := kk.tup _ _ hpt
                have rbk := rbj.mono kk.tup
                have rpk := rp7.mono (kfj.trans kk).tup
                have hrk : ∀ H', Kp [] Hk H' → RowAt K H' row S := fun H' k => hrow7.keep (kfj.trans (kk.trans k)) ne_mem0 dis0
                have rmk : ∀ H', Kp [] Hk H' → RE H' maker (.ref pm) := fun H' k => rem7.mono (kfj.trans (kk.trans k)).tup
                clear kk hpt rbj kfj hpoj
                rcases alt with ⟨oo, t2, x2, _⟩ | ⟨vv, t1, t2, x1, hn, x2, hb⟩
                · obtain ⟨rfl, _⟩ := x2.det xt
                  have hne : decide (V.str (Res.out oo).oc.w = V.str "end") = false := decide_eq_false fun z => by
                    obtain ⟨s, hs⟩ := w_end.mp z
                    cases hs
                  walk_at "gi"
                  rw [hne]
                  walk_at "gi"
                  exact ⟨_, _, _, _, _, _, _, _, _, _, rfl, hrk _ Kp.refl, rmk _ Kp.refl⟩
                · obtain ⟨rfl, rfl⟩ := x2.det xt
                  have hptk' : Hk pt = some (.tup [.str "end", nV num]) := hptk
                  have x40 : Run p 40 (.val vv) t1 := R.more x1 (fun z => nomatch z) 40 (by omega)
                  obtain ⟨_, et⟩ := x.det x40
                  walk_at "gi"
                  refine ne_int rfl ?_
                  walk_at "gi"
                  refine rd_lasts (most := 60) rbk wb db sb (by decide) fun r5 t5 rl5 ws5 H15 x5 nrl5 hrl5 rws5 k15 => ?_
                  obtain ⟨_, rfl⟩ := x2.det x5
                  have l5' := rws5.length
                  rw [lastRows_length, hb] at l5'
                  walk_at "go"
                  refine rd_lasts (most := 40) (rpk.mono k15.tup) wp dp7 sp60 (by decide) fun r6 t6 rl6 ws6 H16 x6 nrl6 hrl6 rws6 k16 => ?_
                  obtain ⟨_, rfl⟩ := x40.det x6
                  have l6' := rws6.length
                  rw [lastRows_length] at l6'
                  walk_at "go"
                  refine ne_int (by omega) ?_
                  walk_at "gi"
                  exact ⟨_, _, _, _, _, _, _, _, _, _, rfl, hrk _ (k15.trans k16), rmk _ (k15.trans k16)⟩
              · walk_at "gi"
                rename_i ps Hs ns ks hs
                refine rd_inT (SqT.of hs) rfl rfl ?_
                rw [isVal_in]
                walk_at "gi"
                refine ite2 (fun c => ?_) (fun c => ?_)
                · have hv : ∃ v, r = .val v := by
                    cases r with
                    | val v => exact ⟨v, rfl⟩
                    | out o => cases c
                  obtain ⟨v, er⟩ := hv
                  have x60 := x
                  rw [er] at x60
                  have x60 := R.more x60 (fun z => nomatch z) 60 (by omega)
                  have hw : inV (.str rt.oc.w) [.str "end", .str "still"] = true := by
                    rcases alt with ⟨oo, t2, x2, himp⟩ | ⟨vv, t1, t2, x1, hn, x2, hb⟩
                    · have := himp _ _ x60
                      subst this
                      rw [(x2.det xt).1.symm]
                      decide +kernel
                    · rw [(x2.det xt).1.symm]
                      show inV (.str "end") [.str "end", .str "still"] = true
                      decide +kernel
                  have hpts := ks.tup _ _ hpt
                  clear hs ns
                  walk_at "go"
                  rename_i ps2 Hs2 ns2 ks2 hs2
                  refine rd_notInT (SqT.of hs2) rfl rfl ?_
                  rw [hw]
                  walk_at "gi"
                  exact hZ _ _ ⟨_, _, _, rfl, ks.trans ks2⟩
                · walk_at "gi"
                  exact hZ _ _ ⟨_, _, _, rfl, ks⟩
            · have hpoe := ke.tup _ _ hpo7
              have rpe := rp7.mono ke.tup
              walk_at "gi"
              refine ite2 (fun c => ?_) (fun c => ?_)
              · obtain ⟨n, hn⟩ := w_end.mp (of_decide_eq_true c)
                have er := oc_num hn
                subst er
                obtain ⟨oo, tz, xz⟩ := f7 wp x 60 (by omega)
                walk_at "go"
                rename_i pc Hg ng kg hg
                refine rd_ran (most := 60) (e := .call p p) ⟨pc, _, _, rfl, hg, rpe.mono kg.tup, rpe.mono kg.tup⟩ ⟨wp, wp⟩ (by show 1 + max p.depth p.depth ≤ 7; omega) (by show 1 + (p.size + p.size) ≤ 60; omega) (by decide) fun rz tz' oz Hz xz' ocz kz => ?_
                obtain ⟨rfl, _⟩ := xz.det xz'
                obtain ⟨pz, rfl, hpz⟩ := ocz.oc
                have keg := ke.trans (kg.trans kz)
                clear kg kz hg ng ocz
                walk_at "go"
                rename_i ps2 Hs2 ns2 ks2 hs2
                refine rd_notInT (SqT.of hs2) rfl rfl ?_
                rw [isOut_in]
                walk_at "gi"
                exact hZ _ _ ⟨_, _, _, rfl, keg.trans ks2⟩
              · walk_at "gi"
                exact hZ _ _ ⟨_, _, _, rfl, ke⟩
          · have hpoe := kcd.tup _ _ hpo7
            walk_at "gi"
            refine ite2 (fun c => ?_) (fun c => ?_)
            · obtain ⟨n, hn⟩ := w_end.mp (of_decide_eq_true c)
              have er := oc_num hn
              subst er
              have hpo' : Hd po = some (.tup [.str "end", nV n]) := hpoe
              have xn : Run (.num num) 0 (.val (.int num)) [] := R.num
              have eo := plus_oc xn x xa (fun z => nomatch z) (fun z => nomatch z) (by decide)
              have eo' : ra.oc = .num ((num + n) % 1000) := eo
              walk_at "go"
              rename_i pz Hz nz kz hz
              have em : ((n : Int) + (num : Int)).fmod 1000 = (((num + n) % 1000 : Nat) : Int) := by rw [Int.fmod_eq_emod_of_nonneg _ (by decide)]; omega
              rw [em] at hz
              refine rd_neOc (o := ra.oc) (oca.mono kz.tup) (by rw [eo']; exact ⟨pz, rfl, hz⟩) ?_
              walk_at "gi"
              exact hZ _ _ ⟨_, _, _, rfl, kcd.trans kz, oca.mono kz.tup⟩
            · walk_at "gi"
              exact hZ _ _ ⟨_, _, _, rfl, kcd, oca⟩
        · have hpoe := kb.tup _ _ hpo7
          have rpe := rp7.mono kb.tup
          have rme := rem7.mono kb.tup
          walk_at "gi"
          refine ite2 (fun c => ?_) (fun c => ?_)
          · obtain ⟨s, hs⟩ := w_fn.mp (of_decide_eq_true c)
            obtain ⟨k0, b0, q0, y0, er⟩ := oc_fn hs
            subst er
            obtain ⟨r', t', xz, eo⟩ := f5 x 41 (by omega)
            walk_at "go"
            rename_i pc Hg ng kg hg
            refine rd_ran (most := 41) (e := .call maker p) ⟨pc, _, _, rfl, hg, rme.mono kg.tup, rpe.mono kg.tup⟩ wcm dcm scm (by decide) fun rz tz' oz Hz xz' ocz kz => ?_
            obtain ⟨rfl, _⟩ := xz.det xz'
            have ocz := ocz.oc
            rw [eo] at ocz
            walk_at "go"
            rename_i pe He ne' ke he
            refine rd_neOc (o := .out .number) (ocz.mono ke.tup) ⟨pe, rfl, he⟩ ?_
            walk_at "gi"
            exact hZ _ _ ⟨_, _, rfl, kb.trans (kg.trans (kz.trans ke))⟩
          · walk_at "gi"
            exact hZ _ _ ⟨_, _, rfl, kb⟩
      · have hpoe := k8.tup _ _ hpo7
        have rpe := rp7.mono k8.tup
        have rme := rem7.mono k8.tup
        walk_at "gi"
        refine ite2 (fun c => ?_) (fun c => ?_)
        · obtain ⟨n, hn⟩ := w_end.mp (of_decide_eq_true c)
          have er := oc_num hn
          subst er
          obtain ⟨r', t', xz, eo⟩ := f5 x 41 (by omega)
          have hpo' : H8 po = some (.tup [.str "end", nV n]) := hpoe
          walk_at "go"
          rename_i pc Hg ng kg hg
          refine rd_ran (most := 41) (e := .call maker p) ⟨pc, _, _, rfl, hg, rme.mono kg.tup, rpe.mono kg.tup⟩ wcm dcm scm (by decide) fun rz tz' oz Hz xz' ocz kz => ?_
          obtain ⟨rfl, _⟩ := xz.det xz'
          have ocz := ocz.oc
          rw [eo] at ocz
          have hpoz := (kg.trans kz).tup _ _ hpo'
          walk_at "go"
          rename_i pe He ne' ke he
          have em : ((n : Int) + 1).fmod 1000 = (((n + 1) % 1000 : Nat) : Int) := by rw [Int.fmod_eq_emod_of_nonneg _ (by decide)]; omega
          rw [em] at he
          refine rd_neOc (o := .num ((n + 1) % 1000)) (ocz.mono ke.tup) ⟨pe, rfl, he⟩ ?_
          walk_at "gi"
          exact hZ _ _ ⟨_, _, rfl, k8.trans (kg.trans (kz.trans ke))⟩
        · walk_at "gi"
          exact hZ _ _ ⟨_, _, rfl, k8⟩
  · rintro _ H' ⟨v3, v4, v5, v6, v7, v8, v9, v10, v11, v12, rfl, hrow2, _⟩
    walk_at "go"
    exact q H'
end
end EW

end
section
open PySem L2 EW
local macro_rules | `(tactic| walk_at "ne") => `(tactic| first
  | assumption
  | exact Ne.symm (by assumption)
  | ((with_reducible refine' EW.RowAt.newne ?n ?h); (case n => assumption); (case h => walk_at "hp"))
  | ((with_reducible refine' Ne.symm (EW.RowAt.newne ?n ?h)); (case n => assumption); (case h => walk_at "hp"))
  | ((with_reducible refine' EW.BoxAt.newne ?n ?h); (case n => assumption); (case h => walk_at "hp"))
  | ((with_reducible refine' Ne.symm (EW.BoxAt.newne ?n ?h)); (case n => assumption); (case h => walk_at "hp")))
local macro_rules | `(tactic| walk_at "ns") => `(tactic| first
  | assumption
  | exact EW.RowAt.ne (by assumption)
  | ((with_reducible refine' EW.RowAt.notin ?n ?h); (case n => assumption); (case h => walk_at "hp")))
local macro_rules | `(tactic| walk_at "ni") => `(tactic| first
  | with_reducible exact EW.ne_mem0
  | with_reducible exact EW.dis0
  | ((with_reducible refine' EW.ne_mem1 ?h); (case h => walk_at "ne"))
  | ((with_reducible refine' EW.ne_mem2 ?h ?g); (case h => walk_at "ne"); (case g => walk_at "ne"))
  | ((with_reducible refine' EW.dis1 ?h); (case h => walk_at "ns"))
  | ((with_reducible refine' EW.dis2 ?h ?g); (case h => walk_at "ns"); (case g => walk_at "ns")))
local macro_rules | `(tactic| walk_at "hp") => `(tactic| first
  | assumption
  | ((with_reducible refine' EW.RE.mono (EW.Kp.tup ?k) ?h); (case k => assumption); (case h => walk_at "hp"))
  | ((with_reducible refine' EW.Kp.tup ?k _ _ ?h); (case k => assumption); (case h => walk_at "hp"))
  | ((with_reducible refine' EW.kp_tup ?k ?h); (case k => assumption); (case h => walk_at "hp"))
  | ((with_reducible refine' EW.Kp.keep ?k _ _ ?h ?n); (case k => assumption); (case h => walk_at "hp"); (case n => walk_at "ni"))
  | ((with_reducible refine' EW.Kp.seqL ?k ?h ?n); (case k => assumption); (case h => walk_at "hp"); (case n => walk_at "ni"))
  | ((with_reducible refine' EW.RowAt.keep ?k ?h ?n1 ?n2); (case k => assumption); (case h => walk_at "hp"); (case n1 => walk_at "ni"); (case n2 => walk_at "ni"))
  | ((with_reducible refine' EW.ScAt.keep ?k ?h ?n); (case k => assumption); (case h => walk_at "hp"); (case n => walk_at "ni"))
  | ((with_reducible refine' EW.BoxAt.keep ?k ?h ?n); (case k => assumption); (case h => walk_at "hp"); (case n => walk_at "ni"))
  | ((with_reducible refine' L2.SqL.of ?h); (case h => walk_at "hp"))
  | ((with_reducible refine' L2.SqT.of ?h); (case h => walk_at "hp")))
local macro_rules | `(tactic| walk_at "sb") => `(tactic| first
  | exact EW.sub0
  | exact EW.sub_refl
  | exact EW.sub_l
  | exact EW.sub_r)
local macro_rules | `(tactic| walk_at "kp") => `(tactic| first
  | exact EW.Kp.refl
  | assumption
  | ((with_reducible refine' EW.Kp.trans ?h (EW.Kp.mono ?k ?s)); (case k => assumption); (case s => walk_at "sb"); (case h => walk_at "kp")))
local macro_rules | `(tactic| walk_at "st") => `(tactic| first
  | with_reducible refine rd_seq ?_
  | with_reducible refine rd_next ?_
  | with_reducible refine rd_asg ?_
  | with_reducible refine rd_name ?_
  | with_reducible refine rd_ret ?_
  | with_reducible refine rd_drop ?_
  | ((with_reducible refine' rd_var ?e ?_); (case e => first | with_reducible assumption | exact rfl | assumption))
  | with_reducible refine rd_c ?_
  | with_reducible refine rd_op ?_
  | with_reducible refine rd_I0 ?_
  | with_reducible refine rd_test ?_
  | with_reducible refine rd_tB ?_
  | with_reducible refine rd_not ?_
  | with_reducible refine rd_and ?_
  | with_reducible refine rd_or ?_
  | with_reducible refine rd_ifE ?_
  | with_reducible refine rd_notV ?_
  | with_reducible refine rd_andV ?_
  | with_reducible refine rd_orV ?_
  | with_reducible refine rd_cons ?_
  | with_reducible refine EW.rd_par ?_
  | with_reducible refine EW.rd_par2 ?_
  | with_reducible refine EW.rd_parT ?_
  | with_reducible refine EW.rd_par3 ?_
  | with_reducible refine rd_nil ?_
  | with_reducible refine rd_cb ?_
  | with_reducible refine rd_call ?_
  | with_reducible refine rd_meth ?_
  | with_reducible refine rd_sub ?_
  | with_reducible refine rd_fl ?_
  | with_reducible refine rd_tup ?_
  | with_reducible refine rd_lst ?_
  | with_reducible refine rd_sl ?_
  | with_reducible refine rd_part ?_
  | with_reducible refine rd_partI ?_
  | with_reducible refine rd_nopart ?_
  | with_reducible refine rd_yes ?_
  | with_reducible refine rd_dnewK ?_
  | with_reducible refine rd_dnewT ?_
  | ((with_reducible refine' rd_isT ?h ?_); (case h => walk_at "hp"))
  | with_reducible refine rd_isI ?_
  | with_reducible refine rd_isII ?_
  | with_reducible refine rd_isIB ?_
  | ((with_reducible refine' rd_sum ?h ?_); (case h => walk_at "hp"))
  | ((with_reducible refine' rd_tail ?h ?_); (case h => walk_at "hp"))
  | ((with_reducible refine rd_newO ?_); intro _ _ _ _ _)
  | ((with_reducible refine' rd_lenS ?l ?_); (case l => exact rfl))
  | ((with_reducible refine' rd_ixS ?l ?e ?_); (case l => exact rfl); (case e => first | assumption | with_reducible exact EW.at_head | exact rfl))
  | with_reducible refine EW.ite_dT (by decide +kernel) ?_
  | with_reducible refine EW.ite_dF (by decide +kernel) ?_
  | with_reducible refine EW.ite_nT (by decide +kernel) ?_
  | with_reducible refine EW.ite_nF (by decide +kernel) ?_
  | with_reducible refine EW.iteNF ?_
  | with_reducible refine EW.iteNT ?_
  | with_reducible refine EW.iteEC ?_
  | with_reducible refine EW.iteEN ?_
  | with_reducible refine EW.iteNC ?_
  | with_reducible refine EW.iteNN ?_
  | with_reducible refine EW.rd_kget (by assumption) ?_
  | with_reducible refine EW.rd_kgx (by assumption) _ ?_
  | with_reducible refine EW.rd_ixD (by assumption) _ ?_
  | with_reducible refine EW.rd_chain ?_
  | with_reducible refine L2.iteT ?_
  | with_reducible refine L2.iteF ?_
  | with_reducible refine rd_bm ?_
  | with_reducible refine rd_bm0 ?_
  | with_reducible refine rd_sfld ?_
  | with_reducible refine rd_make ?_
  | ((with_reducible refine' rd_bmL ?s ?_); (case s => walk_at "hp"))
  | ((with_reducible refine' rd_bm0L ?s ?_); (case s => walk_at "hp"))
  | ((with_reducible refine' rd_mex ?s ?l ?_); (case s => walk_at "hp"); (case l => assumption))
  | with_reducible refine rd_lc ?_
  | with_reducible refine rd_for ?_
  | with_reducible refine rd_il ?_
  | with_reducible refine rd_it ?_
  | with_reducible refine rd_ir ?_
  | with_reducible refine rd_dput ?_
  | with_reducible refine rd_dget ?_
  | ((with_reducible refine' rd_ilx ?s ?_); (case s => walk_at "hp"))
  | ((with_reducible refine' rd_itx ?s ?_); (case s => walk_at "hp"))
  | ((with_reducible refine' rd_getK ?s ?e ?_); (case s => walk_at "hp"); (case e => assumption))
  | ((with_reducible refine rd_newT rfl ?_); intro _ _ _ _ _)
  | ((with_reducible refine rd_newL rfl ?_); intro _ _ _ _ _)
  | ((with_reducible refine' rd_taken ?a ?b ?c ?_); (case a => walk_at "hp"); (case b => first | omega | decide); (case c => first | omega | decide); intro _ _ _ _ _)
  | ((with_reducible refine' rd_neE ?a ?b ?_); (case a => walk_at "hp"); (case b => walk_at "hp"))
  | ((with_reducible refine' rd_eqE ?a ?b ?_); (case a => walk_at "hp"); (case b => walk_at "hp"))
  | with_reducible refine rd_eq rfl ?_
  | with_reducible refine rd_ne rfl ?_
  | with_reducible refine rd_bl ?_
  | ((with_reducible refine rd_I ?c ?_); (case c => first | assumption | omega | decide | (exact Or.inl ⟨by omega, by omega⟩) | (exact ⟨by omega, by omega⟩) | (exact ⟨by decide, by decide, by decide⟩)))
  | refine Or.inl ⟨_, rfl, ?_⟩
  | refine Or.inr ⟨_, rfl, ?_⟩
  | ((with_reducible refine' rd_lenL ?s ?_); (case s => walk_at "hp"))
  | ((with_reducible refine' rd_lenT ?s ?_); (case s => walk_at "hp"))
  | ((with_reducible refine' rd_ixL ?s ?e ?_); (case s => walk_at "hp"); (case e => first | assumption | with_reducible exact EW.at_head | exact rfl))
  | ((with_reducible refine' rd_ixT ?s ?e ?_); (case s => walk_at "hp"); (case e => first | assumption | with_reducible exact EW.at_head | exact rfl))
  | ((with_reducible refine' rd_flx ?s ?c ?n ?l ?_); (case s => walk_at "hp"); (case c => assumption); (case n => assumption); (case l => assumption)))
local macro_rules | `(tactic| walk_at "go") => `(tactic| repeat (walk_at "st"))
local macro_rules | `(tactic| walk_at "gi") => `(tactic| repeat (first | with_reducible refine rd_if ?_ | walk_at "st"))
namespace EW
open PySem L2
theorem kit_self {K : PySem.W.Frag} {C : Addr} : PySem.W.kitOne K (.ref C) (.ref C) = some true := by unfold PySem.W.kitOne; rw [if_pos (beq_self_eq_true _)]
theorem kit_ofT {K : PySem.W.Frag} {C : Addr} {T : String} (h1 : PySem.W.isClsIn K C = true) (h2 : PySem.W.typeIn K (.ref C) = some (.type "type")) (h3 : PySem.W.subIn K (.type T) (.ref C) = some false) : PySem.W.kitOne K (.type T) (.ref C) = some false := by
  unfold PySem.W.kitOne PySem.W.kitCls
  rw [if_neg (by intro z; exact nomatch (eq_of_beq z))]
  unfold PySem.W.isClsIn at h1
  simp only [h1, h2, h3, Bool.true_and, beq_self_eq_true, if_true]
theorem all_mk {l : PySem.W.OpenLaw} {w : World} {K : PySem.W.Frag} {h : Heap} {mg : Str → Option Value} {fa : Addr} (X : K.In h) (G : h.Ns mainGlobals mg) (hfa : mg "law" = some (.ref fa))
    {C_Function C_Run C_Sites a_SHAPES a_WAYS f__law_taken f__law_bound f__law_names f__law_leaf f__law_e f__law_size f__law_few f__law_any f_is_number f_names_in f_is_expression f_parts_of f_count f_need_program f_with_name f_Sites_new_site f_Sites_sited f_Sites___init__ f_need_most f_Run_holder f_Function___init__ f_Run_do f_Run_plus f_Run_choose f_Run_call f_Run_step f_outcome_of f_Run___init__ f_run_of f_ran f_need_way f_Sites_sites_of f_Sites_house_of f_look_of f_looked f_straight f_held f_kept f_lasts f_law : Addr} {t_LIMIT : Tok} {t_NAMES : Tok} {t_MOST_PARTS : Tok} {t_MOST_WITHIN : Tok} {es_S : Array DictEntry} {n_S : Nat} {u_num : Tok} {u_name : Tok} {u_plus : Tok} {u_let : Tok} {u_fun : Tok} {u_call : Tok} {u_if : Tok} {t_MOST_BEGUN : Tok} {od_W : Option Addr} {it_W : Array Value} {n_W : Nat} {sl_W : Array (Option Value)} {od__law_taken an__law_taken : Option Addr} {sl__law_taken : Array (Option Value)} {oc__law_taken kV__law_taken dc__law_taken pm__law_taken cd__law_taken ct__law_taken : Value} {od__law_bound an__law_bound : Option Addr} {sl__law_bound : Array (Option Value)} {oc__law_bound kV__law_bound dc__law_bound pm__law_bound cd__law_bound ct__law_bound : Value} {od__law_names an__law_names : Option Addr} {sl__law_names : Array (Option Value)} {oc__law_names kV__law_names dc__law_names pm__law_names cd__law_names ct__law_names : Value} {od__law_leaf an__law_leaf : Option Addr} {sl__law_leaf : Array (Option Value)} {oc__law_leaf kV__law_leaf dc__law_leaf pm__law_leaf cd__law_leaf ct__law_leaf : Value} {od__law_e an__law_e : Option Addr} {sl__law_e : Array (Option Value)} {oc__law_e kV__law_e dc__law_e pm__law_e cd__law_e ct__law_e : Value} {od__law_size an__law_size : Option Addr} {sl__law_size : Array (Option Value)} {oc__law_size kV__law_size dc__law_size pm__law_size cd__law_size ct__law_size : Value} {od__law_few an__law_few : Option Addr} {sl__law_few : Array (Option Value)} {oc__law_few kV__law_few dc__law_few pm__law_few cd__law_few ct__law_few : Value} {od__law_any an__law_any : Option Addr} {sl__law_any : Array (Option Value)} {oc__law_any kV__law_any dc__law_any pm__law_any cd__law_any ct__law_any : Value} {od_is_number an_is_number : Option Addr} {sl_is_number : Array (Option Value)} {oc_is_number kV_is_number dc_is_number pm_is_number cd_is_number ct_is_number : Value} {od_names_in an_names_in : Option Addr} {sl_names_in : Array (Option Value)} {oc_names_in kV_names_in dc_names_in pm_names_in cd_names_in ct_names_in : Value} {od_is_expression an_is_expression : Option Addr} {sl_is_expression : Array (Option Value)} {oc_is_expression kV_is_expression dc_is_expression pm_is_expression cd_is_expression ct_is_expression : Value} {od_parts_of an_parts_of : Option Addr} {sl_parts_of : Array (Option Value)} {oc_parts_of kV_parts_of dc_parts_of pm_parts_of cd_parts_of ct_parts_of : Value} {od_count an_count : Option Addr} {sl_count : Array (Option Value)} {oc_count kV_count dc_count pm_count cd_count ct_count : Value} {od_need_program an_need_program : Option Addr} {sl_need_program : Array (Option Value)} {oc_need_program kV_need_program dc_need_program pm_need_program cd_need_program ct_need_program : Value} {od_with_name an_with_name : Option Addr} {sl_with_name : Array (Option Value)} {oc_with_name kV_with_name dc_with_name pm_with_name cd_with_name ct_with_name : Value} {od_Sites_new_site an_Sites_new_site : Option Addr} {sl_Sites_new_site : Array (Option Value)} {oc_Sites_new_site kV_Sites_new_site dc_Sites_new_site pm_Sites_new_site cd_Sites_new_site ct_Sites_new_site : Value} {od_Sites_sited an_Sites_sited : Option Addr} {sl_Sites_sited : Array (Option Value)} {oc_Sites_sited kV_Sites_sited dc_Sites_sited pm_Sites_sited cd_Sites_sited ct_Sites_sited : Value} {od_Sites___init__ an_Sites___init__ : Option Addr} {sl_Sites___init__ : Array (Option Value)} {oc_Sites___init__ kV_Sites___init__ dc_Sites___init__ pm_Sites___init__ cd_Sites___init__ ct_Sites___init__ : Value} {od_need_most an_need_most : Option Addr} {sl_need_most : Array (Option Value)} {oc_need_most kV_need_most dc_need_most pm_need_most cd_need_most ct_need_most : Value} {od_Run_holder an_Run_holder : Option Addr} {sl_Run_holder : Array (Option Value)} {oc_Run_holder kV_Run_holder dc_Run_holder pm_Run_holder cd_Run_holder ct_Run_holder : Value} {od_Function___init__ an_Function___init__ : Option Addr} {sl_Function___init__ : Array (Option Value)} {oc_Function___init__ kV_Function___init__ dc_Function___init__ pm_Function___init__ cd_Function___init__ ct_Function___init__ : Value} {od_Run_do an_Run_do : Option Addr} {sl_Run_do : Array (Option Value)} {oc_Run_do kV_Run_do dc_Run_do pm_Run_do cd_Run_do ct_Run_do : Value} {od_Run_plus an_Run_plus : Option Addr} {sl_Run_plus : Array (Option Value)} {oc_Run_plus kV_Run_plus dc_Run_plus pm_Run_plus cd_Run_plus ct_Run_plus : Value} {od_Run_choose an_Run_choose : Option Addr} {sl_Run_choose : Array (Option Value)} {oc_Run_choose kV_Run_choose dc_Run_choose pm_Run_choose cd_Run_choose ct_Run_choose : Value} {od_Run_call an_Run_call : Option Addr} {sl_Run_call : Array (Option Value)} {oc_Run_call kV_Run_call dc_Run_call pm_Run_call cd_Run_call ct_Run_call : Value} {od_Run_step an_Run_step : Option Addr} {sl_Run_step : Array (Option Value)} {oc_Run_step kV_Run_step dc_Run_step pm_Run_step cd_Run_step ct_Run_step : Value} {od_outcome_of an_outcome_of : Option Addr} {sl_outcome_of : Array (Option Value)} {oc_outcome_of kV_outcome_of dc_outcome_of pm_outcome_of cd_outcome_of ct_outcome_of : Value} {od_Run___init__ an_Run___init__ : Option Addr} {sl_Run___init__ : Array (Option Value)} {oc_Run___init__ kV_Run___init__ dc_Run___init__ pm_Run___init__ cd_Run___init__ ct_Run___init__ : Value} {od_run_of an_run_of : Option Addr} {sl_run_of : Array (Option Value)} {oc_run_of kV_run_of dc_run_of pm_run_of cd_run_of ct_run_of : Value} {od_ran an_ran : Option Addr} {sl_ran : Array (Option Value)} {oc_ran kV_ran dc_ran pm_ran cd_ran ct_ran : Value} {od_need_way an_need_way : Option Addr} {sl_need_way : Array (Option Value)} {oc_need_way kV_need_way dc_need_way pm_need_way cd_need_way ct_need_way : Value} {od_Sites_sites_of an_Sites_sites_of : Option Addr} {sl_Sites_sites_of : Array (Option Value)} {oc_Sites_sites_of kV_Sites_sites_of dc_Sites_sites_of pm_Sites_sites_of cd_Sites_sites_of ct_Sites_sites_of : Value} {od_Sites_house_of an_Sites_house_of : Option Addr} {sl_Sites_house_of : Array (Option Value)} {oc_Sites_house_of kV_Sites_house_of dc_Sites_house_of pm_Sites_house_of cd_Sites_house_of ct_Sites_house_of : Value} {od_look_of an_look_of : Option Addr} {sl_look_of : Array (Option Value)} {oc_look_of kV_look_of dc_look_of pm_look_of cd_look_of ct_look_of : Value} {od_looked an_looked : Option Addr} {sl_looked : Array (Option Value)} {oc_looked kV_looked dc_looked pm_looked cd_looked ct_looked : Value} {od_straight an_straight : Option Addr} {sl_straight : Array (Option Value)} {oc_straight kV_straight dc_straight pm_straight cd_straight ct_straight : Value} {od_held an_held : Option Addr} {sl_held : Array (Option Value)} {oc_held kV_held dc_held pm_held cd_held ct_held : Value} {od_kept an_kept : Option Addr} {sl_kept : Array (Option Value)} {oc_kept kV_kept dc_kept pm_kept cd_kept ct_kept : Value} {od_lasts an_lasts : Option Addr} {sl_lasts : Array (Option Value)} {oc_lasts kV_lasts dc_lasts pm_lasts cd_lasts ct_lasts : Value} {od_law an_law : Option Addr} {sl_law : Array (Option Value)} {oc_law kV_law dc_law pm_law cd_law ct_law : Value}
    (cC_Function : PySem.W.nsIn K mainGlobals "Function" = some (some (.ref C_Function)))
    (pg_Function : PySem.W.plainGet K C_Function Str.empty = true)
    (hd_Function : PySem.W.hasDictIn K C_Function = true)
    (po_Function : PySem.W.plainOver K C_Function = true)
    (sa_Function : PySem.W.findIn K (.ref C_Function) "__setattr__" = some (some (.builtin "object.__setattr__")))
    (cC_Run : PySem.W.nsIn K mainGlobals "Run" = some (some (.ref C_Run)))
    (pg_Run : PySem.W.plainGet K C_Run Str.empty = true)
    (hd_Run : PySem.W.hasDictIn K C_Run = true)
    (po_Run : PySem.W.plainOver K C_Run = true)
    (sa_Run : PySem.W.findIn K (.ref C_Run) "__setattr__" = some (some (.builtin "object.__setattr__")))
    (cC_Sites : PySem.W.nsIn K mainGlobals "Sites" = some (some (.ref C_Sites)))
    (pg_Sites : PySem.W.plainGet K C_Sites Str.empty = true)
    (hd_Sites : PySem.W.hasDictIn K C_Sites = true)
    (po_Sites : PySem.W.plainOver K C_Sites = true)
    (sa_Sites : PySem.W.findIn K (.ref C_Sites) "__setattr__" = some (some (.builtin "object.__setattr__")))
    (z_int : PySem.W.nsIn K mainGlobals "int" = some none)
    (z_bool : PySem.W.nsIn K mainGlobals "bool" = some none)
    (z_tuple : PySem.W.nsIn K mainGlobals "tuple" = some none)
    (z_len : PySem.W.nsIn K mainGlobals "len" = some none)
    (z_range : PySem.W.nsIn K mainGlobals "range" = some none)
    (z_sum : PySem.W.nsIn K mainGlobals "sum" = some none)
    (z_sorted : PySem.W.nsIn K mainGlobals "sorted" = some none)
    (z_dict : PySem.W.nsIn K mainGlobals "dict" = some none)
    (z_list : PySem.W.nsIn K mainGlobals "list" = some none)
    (z_isinstance : PySem.W.nsIn K mainGlobals "isinstance" = some none)
    (z_enumerate : PySem.W.nsIn K mainGlobals "enumerate" = some none)
    (z_set : PySem.W.nsIn K mainGlobals "set" = some none)
    (m_LIMIT : PySem.W.nsIn K mainGlobals "LIMIT" = some (some (.int 1000 t_LIMIT)))
    (m_NAMES : PySem.W.nsIn K mainGlobals "NAMES" = some (some (.int 10 t_NAMES)))
    (m_MOST_PARTS : PySem.W.nsIn K mainGlobals "MOST_PARTS" = some (some (.int 60 t_MOST_PARTS)))
    (m_MOST_WITHIN : PySem.W.nsIn K mainGlobals "MOST_WITHIN" = some (some (.int 7 t_MOST_WITHIN)))
    (m_SHAPES : PySem.W.nsIn K mainGlobals "SHAPES" = some (some (.ref a_SHAPES)))
    (l_SHAPES : K.lookup a_SHAPES = some ⟨.type "dict", none, .dict es_S n_S, #[]⟩)
    (kl_SHAPES : PySem.W.KeysLit w.params es_S.toList)
    (lo_SHAPES : (a_SHAPES == sysModules) = false)
    (s_num : PySem.W.nsIn K a_SHAPES "num" = some (some (.str "n" u_num)))
    (s_name : PySem.W.nsIn K a_SHAPES "name" = some (some (.str "k" u_name)))
    (s_plus : PySem.W.nsIn K a_SHAPES "plus" = some (some (.str "ee" u_plus)))
    (s_let : PySem.W.nsIn K a_SHAPES "let" = some (some (.str "kee" u_let)))
    (s_fun : PySem.W.nsIn K a_SHAPES "fun" = some (some (.str "ke" u_fun)))
    (s_call : PySem.W.nsIn K a_SHAPES "call" = some (some (.str "ee" u_call)))
    (s_if : PySem.W.nsIn K a_SHAPES "if" = some (some (.str "eee" u_if)))
    (n_owners : PySem.W.findIn K (.ref C_Sites) "owners" = some none)
    (n_funs : PySem.W.findIn K (.ref C_Sites) "funs" = some none)
    (n_used : PySem.W.findIn K (.ref C_Sites) "used" = some none)
    (n_tree : PySem.W.findIn K (.ref C_Sites) "tree" = some none)
    (m_MOST_BEGUN : PySem.W.nsIn K mainGlobals "MOST_BEGUN" = some (some (.int 60 t_MOST_BEGUN)))
    (nr_sites : PySem.W.findIn K (.ref C_Run) "sites" = some none)
    (nr_left : PySem.W.findIn K (.ref C_Run) "left" = some none)
    (nr_owners : PySem.W.findIn K (.ref C_Run) "owners" = some none)
    (nr_ups : PySem.W.findIn K (.ref C_Run) "ups" = some none)
    (nr_worths : PySem.W.findIn K (.ref C_Run) "worths" = some none)
    (nr_looks : PySem.W.findIn K (.ref C_Run) "looks" = some none)
    (nr_made : PySem.W.findIn K (.ref C_Run) "made" = some none)
    (nr_work : PySem.W.findIn K (.ref C_Run) "work" = some none)
    (nr_results : PySem.W.findIn K (.ref C_Run) "results" = some none)
    (nr_outcome : PySem.W.findIn K (.ref C_Run) "outcome" = some none)
    (nr_result : PySem.W.findIn K (.ref C_Run) "result" = some none)
    (nf_site : PySem.W.findIn K (.ref C_Function) "site" = some none)
    (nf_body : PySem.W.findIn K (.ref C_Function) "body" = some none)
    (nf_made_by : PySem.W.findIn K (.ref C_Function) "made_by" = some none)
    (o1 : PySem.W.findIn K (.ref C_Function) "__class__" = some (some (.builtin "object.__class__")))
    (o2 : PySem.W.specialIn K (.builtin "object.__class__") "__get__" = some (some (.builtin "getset_descriptor.__get__")))
    (o3 : PySem.W.takesIn K (.builtin "object.__class__") = some true)
    (o4 : PySem.W.mroIn K C_Function (.type "object") = some true)
    (o5 : PySem.W.isClsIn K C_Function = true)
    (o6 : PySem.W.typeIn K (.ref C_Function) = some (.type "type"))
    (o7 : PySem.W.subIn K (.type "int") (.ref C_Function) = some false)
    (m_WAYS : PySem.W.nsIn K mainGlobals "WAYS" = some (some (.ref a_WAYS)))
    (l_WAYS : K.lookup a_WAYS = some ⟨.type "tuple", od_W, .seq it_W n_W, sl_W⟩)
    (z_WAYS : it_W.size ≤ sizeLine)
    (v_WAYS : Vals [.str "flat", .str "tied", .str "shared"] it_W.toList)
    (o8 : PySem.W.subIn K (.type "NoneType") (.ref C_Function) = some false)
    (a__law_taken : PySem.W.nsIn K mainGlobals "_law_taken" = some (some (.ref f__law_taken)))
    (l__law_taken : K.lookup f__law_taken = some ⟨oc__law_taken, od__law_taken, .func (PySem.W.fnOf "_law_taken" "_law_taken" (defArgs s__law_taken) (defBody s__law_taken) (defScope s__law_taken) .none kV__law_taken dc__law_taken pm__law_taken an__law_taken cd__law_taken ct__law_taken), sl__law_taken⟩)
    (c__law_taken : PySem.W.codeIn K cd__law_taken "_law_taken" = true)
    (k__law_taken : PySem.W.keepIn K (.ref f__law_taken) = true)
    (a__law_bound : PySem.W.nsIn K mainGlobals "_law_bound" = some (some (.ref f__law_bound)))
    (l__law_bound : K.lookup f__law_bound = some ⟨oc__law_bound, od__law_bound, .func (PySem.W.fnOf "_law_bound" "_law_bound" (defArgs s__law_bound) (defBody s__law_bound) (defScope s__law_bound) .none kV__law_bound dc__law_bound pm__law_bound an__law_bound cd__law_bound ct__law_bound), sl__law_bound⟩)
    (c__law_bound : PySem.W.codeIn K cd__law_bound "_law_bound" = true)
    (k__law_bound : PySem.W.keepIn K (.ref f__law_bound) = true)
    (a__law_names : PySem.W.nsIn K mainGlobals "_law_names" = some (some (.ref f__law_names)))
    (l__law_names : K.lookup f__law_names = some ⟨oc__law_names, od__law_names, .func (PySem.W.fnOf "_law_names" "_law_names" (defArgs s__law_names) (defBody s__law_names) (defScope s__law_names) .none kV__law_names dc__law_names pm__law_names an__law_names cd__law_names ct__law_names), sl__law_names⟩)
    (c__law_names : PySem.W.codeIn K cd__law_names "_law_names" = true)
    (k__law_names : PySem.W.keepIn K (.ref f__law_names) = true)
    (a__law_leaf : PySem.W.nsIn K mainGlobals "_law_leaf" = some (some (.ref f__law_leaf)))
    (l__law_leaf : K.lookup f__law_leaf = some ⟨oc__law_leaf, od__law_leaf, .func (PySem.W.fnOf "_law_leaf" "_law_leaf" (defArgs s__law_leaf) (defBody s__law_leaf) (defScope s__law_leaf) .none kV__law_leaf dc__law_leaf pm__law_leaf an__law_leaf cd__law_leaf ct__law_leaf), sl__law_leaf⟩)
    (c__law_leaf : PySem.W.codeIn K cd__law_leaf "_law_leaf" = true)
    (k__law_leaf : PySem.W.keepIn K (.ref f__law_leaf) = true)
    (a__law_e : PySem.W.nsIn K mainGlobals "_law_e" = some (some (.ref f__law_e)))
    (l__law_e : K.lookup f__law_e = some ⟨oc__law_e, od__law_e, .func (PySem.W.fnOf "_law_e" "_law_e" (defArgs s__law_e) (defBody s__law_e) (defScope s__law_e) .none kV__law_e dc__law_e pm__law_e an__law_e cd__law_e ct__law_e), sl__law_e⟩)
    (c__law_e : PySem.W.codeIn K cd__law_e "_law_e" = true)
    (k__law_e : PySem.W.keepIn K (.ref f__law_e) = true)
    (a__law_size : PySem.W.nsIn K mainGlobals "_law_size" = some (some (.ref f__law_size)))
    (l__law_size : K.lookup f__law_size = some ⟨oc__law_size, od__law_size, .func (PySem.W.fnOf "_law_size" "_law_size" (defArgs s__law_size) (defBody s__law_size) (defScope s__law_size) .none kV__law_size dc__law_size pm__law_size an__law_size cd__law_size ct__law_size), sl__law_size⟩)
    (c__law_size : PySem.W.codeIn K cd__law_size "_law_size" = true)
    (k__law_size : PySem.W.keepIn K (.ref f__law_size) = true)
    (a__law_few : PySem.W.nsIn K mainGlobals "_law_few" = some (some (.ref f__law_few)))
    (l__law_few : K.lookup f__law_few = some ⟨oc__law_few, od__law_few, .func (PySem.W.fnOf "_law_few" "_law_few" (defArgs s__law_few) (defBody s__law_few) (defScope s__law_few) .none kV__law_few dc__law_few pm__law_few an__law_few cd__law_few ct__law_few), sl__law_few⟩)
    (c__law_few : PySem.W.codeIn K cd__law_few "_law_few" = true)
    (k__law_few : PySem.W.keepIn K (.ref f__law_few) = true)
    (a__law_any : PySem.W.nsIn K mainGlobals "_law_any" = some (some (.ref f__law_any)))
    (l__law_any : K.lookup f__law_any = some ⟨oc__law_any, od__law_any, .func (PySem.W.fnOf "_law_any" "_law_any" (defArgs s__law_any) (defBody s__law_any) (defScope s__law_any) .none kV__law_any dc__law_any pm__law_any an__law_any cd__law_any ct__law_any), sl__law_any⟩)
    (c__law_any : PySem.W.codeIn K cd__law_any "_law_any" = true)
    (k__law_any : PySem.W.keepIn K (.ref f__law_any) = true)
    (a_is_number : PySem.W.nsIn K mainGlobals "is_number" = some (some (.ref f_is_number)))
    (l_is_number : K.lookup f_is_number = some ⟨oc_is_number, od_is_number, .func (PySem.W.fnOf "is_number" "is_number" (defArgs s_is_number) (defBody s_is_number) (defScope s_is_number) .none kV_is_number dc_is_number pm_is_number an_is_number cd_is_number ct_is_number), sl_is_number⟩)
    (c_is_number : PySem.W.codeIn K cd_is_number "is_number" = true)
    (k_is_number : PySem.W.keepIn K (.ref f_is_number) = true)
    (a_names_in : PySem.W.nsIn K mainGlobals "names_in" = some (some (.ref f_names_in)))
    (l_names_in : K.lookup f_names_in = some ⟨oc_names_in, od_names_in, .func (PySem.W.fnOf "names_in" "names_in" (defArgs s_names_in) (defBody s_names_in) (defScope s_names_in) .none kV_names_in dc_names_in pm_names_in an_names_in cd_names_in ct_names_in), sl_names_in⟩)
    (c_names_in : PySem.W.codeIn K cd_names_in "names_in" = true)
    (k_names_in : PySem.W.keepIn K (.ref f_names_in) = true)
    (a_is_expression : PySem.W.nsIn K mainGlobals "is_expression" = some (some (.ref f_is_expression)))
    (l_is_expression : K.lookup f_is_expression = some ⟨oc_is_expression, od_is_expression, .func (PySem.W.fnOf "is_expression" "is_expression" (defArgs s_is_expression) (defBody s_is_expression) (defScope s_is_expression) .none kV_is_expression dc_is_expression pm_is_expression an_is_expression cd_is_expression ct_is_expression), sl_is_expression⟩)
    (c_is_expression : PySem.W.codeIn K cd_is_expression "is_expression" = true)
    (k_is_expression : PySem.W.keepIn K (.ref f_is_expression) = true)
    (a_parts_of : PySem.W.nsIn K mainGlobals "parts_of" = some (some (.ref f_parts_of)))
    (l_parts_of : K.lookup f_parts_of = some ⟨oc_parts_of, od_parts_of, .func (PySem.W.fnOf "parts_of" "parts_of" (defArgs s_parts_of) (defBody s_parts_of) (defScope s_parts_of) .none kV_parts_of dc_parts_of pm_parts_of an_parts_of cd_parts_of ct_parts_of), sl_parts_of⟩)
    (c_parts_of : PySem.W.codeIn K cd_parts_of "parts_of" = true)
    (k_parts_of : PySem.W.keepIn K (.ref f_parts_of) = true)
    (a_count : PySem.W.nsIn K mainGlobals "count" = some (some (.ref f_count)))
    (l_count : K.lookup f_count = some ⟨oc_count, od_count, .func (PySem.W.fnOf "count" "count" (defArgs s_count) (defBody s_count) (defScope s_count) .none kV_count dc_count pm_count an_count cd_count ct_count), sl_count⟩)
    (c_count : PySem.W.codeIn K cd_count "count" = true)
    (k_count : PySem.W.keepIn K (.ref f_count) = true)
    (a_need_program : PySem.W.nsIn K mainGlobals "need_program" = some (some (.ref f_need_program)))
    (l_need_program : K.lookup f_need_program = some ⟨oc_need_program, od_need_program, .func (PySem.W.fnOf "need_program" "need_program" (defArgs s_need_program) (defBody s_need_program) (defScope s_need_program) .none kV_need_program dc_need_program pm_need_program an_need_program cd_need_program ct_need_program), sl_need_program⟩)
    (c_need_program : PySem.W.codeIn K cd_need_program "need_program" = true)
    (k_need_program : PySem.W.keepIn K (.ref f_need_program) = true)
    (a_with_name : PySem.W.nsIn K mainGlobals "with_name" = some (some (.ref f_with_name)))
    (l_with_name : K.lookup f_with_name = some ⟨oc_with_name, od_with_name, .func (PySem.W.fnOf "with_name" "with_name" (defArgs s_with_name) (defBody s_with_name) (defScope s_with_name) .none kV_with_name dc_with_name pm_with_name an_with_name cd_with_name ct_with_name), sl_with_name⟩)
    (c_with_name : PySem.W.codeIn K cd_with_name "with_name" = true)
    (k_with_name : PySem.W.keepIn K (.ref f_with_name) = true)
    (a_Sites_new_site : PySem.W.findIn K (.ref C_Sites) "new_site" = some (some (.ref f_Sites_new_site)))
    (i_Sites_new_site : PySem.W.isFn K (.ref f_Sites_new_site) = true)
    (l_Sites_new_site : K.lookup f_Sites_new_site = some ⟨oc_Sites_new_site, od_Sites_new_site, .func (PySem.W.fnOf "new_site" "Sites.new_site" (defArgs s_Sites_new_site) (defBody s_Sites_new_site) (defScope s_Sites_new_site) .none kV_Sites_new_site dc_Sites_new_site pm_Sites_new_site an_Sites_new_site cd_Sites_new_site ct_Sites_new_site), sl_Sites_new_site⟩)
    (c_Sites_new_site : PySem.W.codeIn K cd_Sites_new_site "Sites.new_site" = true)
    (k_Sites_new_site : PySem.W.keepIn K (.ref f_Sites_new_site) = true)
    (a_Sites_sited : PySem.W.findIn K (.ref C_Sites) "sited" = some (some (.ref f_Sites_sited)))
    (i_Sites_sited : PySem.W.isFn K (.ref f_Sites_sited) = true)
    (l_Sites_sited : K.lookup f_Sites_sited = some ⟨oc_Sites_sited, od_Sites_sited, .func (PySem.W.fnOf "sited" "Sites.sited" (defArgs s_Sites_sited) (defBody s_Sites_sited) (defScope s_Sites_sited) .none kV_Sites_sited dc_Sites_sited pm_Sites_sited an_Sites_sited cd_Sites_sited ct_Sites_sited), sl_Sites_sited⟩)
    (c_Sites_sited : PySem.W.codeIn K cd_Sites_sited "Sites.sited" = true)
    (k_Sites_sited : PySem.W.keepIn K (.ref f_Sites_sited) = true)
    (a_Sites___init__ : PySem.W.findIn K (.ref C_Sites) "__init__" = some (some (.ref f_Sites___init__)))
    (i_Sites___init__ : PySem.W.isFn K (.ref f_Sites___init__) = true)
    (mk_Sites___init__ : PySem.W.makesIn K C_Sites = true)
    (kc_Sites___init__ : PySem.W.keepIn K (.ref C_Sites) = true)
    (l_Sites___init__ : K.lookup f_Sites___init__ = some ⟨oc_Sites___init__, od_Sites___init__, .func (PySem.W.fnOf "__init__" "Sites.__init__" (defArgs s_Sites___init__) (defBody s_Sites___init__) (defScope s_Sites___init__) .none kV_Sites___init__ dc_Sites___init__ pm_Sites___init__ an_Sites___init__ cd_Sites___init__ ct_Sites___init__), sl_Sites___init__⟩)
    (c_Sites___init__ : PySem.W.codeIn K cd_Sites___init__ "Sites.__init__" = true)
    (k_Sites___init__ : PySem.W.keepIn K (.ref f_Sites___init__) = true)
    (a_need_most : PySem.W.nsIn K mainGlobals "need_most" = some (some (.ref f_need_most)))
    (l_need_most : K.lookup f_need_most = some ⟨oc_need_most, od_need_most, .func (PySem.W.fnOf "need_most" "need_most" (defArgs s_need_most) (defBody s_need_most) (defScope s_need_most) .none kV_need_most dc_need_most pm_need_most an_need_most cd_need_most ct_need_most), sl_need_most⟩)
    (c_need_most : PySem.W.codeIn K cd_need_most "need_most" = true)
    (k_need_most : PySem.W.keepIn K (.ref f_need_most) = true)
    (a_Run_holder : PySem.W.findIn K (.ref C_Run) "holder" = some (some (.ref f_Run_holder)))
    (i_Run_holder : PySem.W.isFn K (.ref f_Run_holder) = true)
    (l_Run_holder : K.lookup f_Run_holder = some ⟨oc_Run_holder, od_Run_holder, .func (PySem.W.fnOf "holder" "Run.holder" (defArgs s_Run_holder) (defBody s_Run_holder) (defScope s_Run_holder) .none kV_Run_holder dc_Run_holder pm_Run_holder an_Run_holder cd_Run_holder ct_Run_holder), sl_Run_holder⟩)
    (c_Run_holder : PySem.W.codeIn K cd_Run_holder "Run.holder" = true)
    (k_Run_holder : PySem.W.keepIn K (.ref f_Run_holder) = true)
    (a_Function___init__ : PySem.W.findIn K (.ref C_Function) "__init__" = some (some (.ref f_Function___init__)))
    (i_Function___init__ : PySem.W.isFn K (.ref f_Function___init__) = true)
    (mk_Function___init__ : PySem.W.makesIn K C_Function = true)
    (kc_Function___init__ : PySem.W.keepIn K (.ref C_Function) = true)
    (l_Function___init__ : K.lookup f_Function___init__ = some ⟨oc_Function___init__, od_Function___init__, .func (PySem.W.fnOf "__init__" "Function.__init__" (defArgs s_Function___init__) (defBody s_Function___init__) (defScope s_Function___init__) .none kV_Function___init__ dc_Function___init__ pm_Function___init__ an_Function___init__ cd_Function___init__ ct_Function___init__), sl_Function___init__⟩)
    (c_Function___init__ : PySem.W.codeIn K cd_Function___init__ "Function.__init__" = true)
    (k_Function___init__ : PySem.W.keepIn K (.ref f_Function___init__) = true)
    (a_Run_do : PySem.W.findIn K (.ref C_Run) "do" = some (some (.ref f_Run_do)))
    (i_Run_do : PySem.W.isFn K (.ref f_Run_do) = true)
    (l_Run_do : K.lookup f_Run_do = some ⟨oc_Run_do, od_Run_do, .func (PySem.W.fnOf "do" "Run.do" (defArgs s_Run_do) (defBody s_Run_do) (defScope s_Run_do) .none kV_Run_do dc_Run_do pm_Run_do an_Run_do cd_Run_do ct_Run_do), sl_Run_do⟩)
    (c_Run_do : PySem.W.codeIn K cd_Run_do "Run.do" = true)
    (k_Run_do : PySem.W.keepIn K (.ref f_Run_do) = true)
    (a_Run_plus : PySem.W.findIn K (.ref C_Run) "plus" = some (some (.ref f_Run_plus)))
    (i_Run_plus : PySem.W.isFn K (.ref f_Run_plus) = true)
    (l_Run_plus : K.lookup f_Run_plus = some ⟨oc_Run_plus, od_Run_plus, .func (PySem.W.fnOf "plus" "Run.plus" (defArgs s_Run_plus) (defBody s_Run_plus) (defScope s_Run_plus) .none kV_Run_plus dc_Run_plus pm_Run_plus an_Run_plus cd_Run_plus ct_Run_plus), sl_Run_plus⟩)
    (c_Run_plus : PySem.W.codeIn K cd_Run_plus "Run.plus" = true)
    (k_Run_plus : PySem.W.keepIn K (.ref f_Run_plus) = true)
    (a_Run_choose : PySem.W.findIn K (.ref C_Run) "choose" = some (some (.ref f_Run_choose)))
    (i_Run_choose : PySem.W.isFn K (.ref f_Run_choose) = true)
    (l_Run_choose : K.lookup f_Run_choose = some ⟨oc_Run_choose, od_Run_choose, .func (PySem.W.fnOf "choose" "Run.choose" (defArgs s_Run_choose) (defBody s_Run_choose) (defScope s_Run_choose) .none kV_Run_choose dc_Run_choose pm_Run_choose an_Run_choose cd_Run_choose ct_Run_choose), sl_Run_choose⟩)
    (c_Run_choose : PySem.W.codeIn K cd_Run_choose "Run.choose" = true)
    (k_Run_choose : PySem.W.keepIn K (.ref f_Run_choose) = true)
    (a_Run_call : PySem.W.findIn K (.ref C_Run) "call" = some (some (.ref f_Run_call)))
    (i_Run_call : PySem.W.isFn K (.ref f_Run_call) = true)
    (l_Run_call : K.lookup f_Run_call = some ⟨oc_Run_call, od_Run_call, .func (PySem.W.fnOf "call" "Run.call" (defArgs s_Run_call) (defBody s_Run_call) (defScope s_Run_call) .none kV_Run_call dc_Run_call pm_Run_call an_Run_call cd_Run_call ct_Run_call), sl_Run_call⟩)
    (c_Run_call : PySem.W.codeIn K cd_Run_call "Run.call" = true)
    (k_Run_call : PySem.W.keepIn K (.ref f_Run_call) = true)
    (a_Run_step : PySem.W.findIn K (.ref C_Run) "step" = some (some (.ref f_Run_step)))
    (i_Run_step : PySem.W.isFn K (.ref f_Run_step) = true)
    (l_Run_step : K.lookup f_Run_step = some ⟨oc_Run_step, od_Run_step, .func (PySem.W.fnOf "step" "Run.step" (defArgs s_Run_step) (defBody s_Run_step) (defScope s_Run_step) .none kV_Run_step dc_Run_step pm_Run_step an_Run_step cd_Run_step ct_Run_step), sl_Run_step⟩)
    (c_Run_step : PySem.W.codeIn K cd_Run_step "Run.step" = true)
    (k_Run_step : PySem.W.keepIn K (.ref f_Run_step) = true)
    (a_outcome_of : PySem.W.nsIn K mainGlobals "outcome_of" = some (some (.ref f_outcome_of)))
    (l_outcome_of : K.lookup f_outcome_of = some ⟨oc_outcome_of, od_outcome_of, .func (PySem.W.fnOf "outcome_of" "outcome_of" (defArgs s_outcome_of) (defBody s_outcome_of) (defScope s_outcome_of) .none kV_outcome_of dc_outcome_of pm_outcome_of an_outcome_of cd_outcome_of ct_outcome_of), sl_outcome_of⟩)
    (c_outcome_of : PySem.W.codeIn K cd_outcome_of "outcome_of" = true)
    (k_outcome_of : PySem.W.keepIn K (.ref f_outcome_of) = true)
    (a_Run___init__ : PySem.W.findIn K (.ref C_Run) "__init__" = some (some (.ref f_Run___init__)))
    (i_Run___init__ : PySem.W.isFn K (.ref f_Run___init__) = true)
    (mk_Run___init__ : PySem.W.makesIn K C_Run = true)
    (kc_Run___init__ : PySem.W.keepIn K (.ref C_Run) = true)
    (l_Run___init__ : K.lookup f_Run___init__ = some ⟨oc_Run___init__, od_Run___init__, .func (PySem.W.fnOf "__init__" "Run.__init__" (defArgs s_Run___init__) (defBody s_Run___init__) (defScope s_Run___init__) .none kV_Run___init__ dc_Run___init__ pm_Run___init__ an_Run___init__ cd_Run___init__ ct_Run___init__), sl_Run___init__⟩)
    (c_Run___init__ : PySem.W.codeIn K cd_Run___init__ "Run.__init__" = true)
    (k_Run___init__ : PySem.W.keepIn K (.ref f_Run___init__) = true)
    (a_run_of : PySem.W.nsIn K mainGlobals "run_of" = some (some (.ref f_run_of)))
    (l_run_of : K.lookup f_run_of = some ⟨oc_run_of, od_run_of, .func (PySem.W.fnOf "run_of" "run_of" (defArgs s_run_of) (defBody s_run_of) (defScope s_run_of) .none kV_run_of dc_run_of pm_run_of an_run_of cd_run_of ct_run_of), sl_run_of⟩)
    (c_run_of : PySem.W.codeIn K cd_run_of "run_of" = true)
    (k_run_of : PySem.W.keepIn K (.ref f_run_of) = true)
    (a_ran : PySem.W.nsIn K mainGlobals "ran" = some (some (.ref f_ran)))
    (l_ran : K.lookup f_ran = some ⟨oc_ran, od_ran, .func (PySem.W.fnOf "ran" "ran" (defArgs s_ran) (defBody s_ran) (defScope s_ran) .none kV_ran dc_ran pm_ran an_ran cd_ran ct_ran), sl_ran⟩)
    (c_ran : PySem.W.codeIn K cd_ran "ran" = true)
    (k_ran : PySem.W.keepIn K (.ref f_ran) = true)
    (a_need_way : PySem.W.nsIn K mainGlobals "need_way" = some (some (.ref f_need_way)))
    (l_need_way : K.lookup f_need_way = some ⟨oc_need_way, od_need_way, .func (PySem.W.fnOf "need_way" "need_way" (defArgs s_need_way) (defBody s_need_way) (defScope s_need_way) .none kV_need_way dc_need_way pm_need_way an_need_way cd_need_way ct_need_way), sl_need_way⟩)
    (c_need_way : PySem.W.codeIn K cd_need_way "need_way" = true)
    (k_need_way : PySem.W.keepIn K (.ref f_need_way) = true)
    (a_Sites_sites_of : PySem.W.findIn K (.ref C_Sites) "sites_of" = some (some (.ref f_Sites_sites_of)))
    (i_Sites_sites_of : PySem.W.isFn K (.ref f_Sites_sites_of) = true)
    (l_Sites_sites_of : K.lookup f_Sites_sites_of = some ⟨oc_Sites_sites_of, od_Sites_sites_of, .func (PySem.W.fnOf "sites_of" "Sites.sites_of" (defArgs s_Sites_sites_of) (defBody s_Sites_sites_of) (defScope s_Sites_sites_of) .none kV_Sites_sites_of dc_Sites_sites_of pm_Sites_sites_of an_Sites_sites_of cd_Sites_sites_of ct_Sites_sites_of), sl_Sites_sites_of⟩)
    (c_Sites_sites_of : PySem.W.codeIn K cd_Sites_sites_of "Sites.sites_of" = true)
    (k_Sites_sites_of : PySem.W.keepIn K (.ref f_Sites_sites_of) = true)
    (a_Sites_house_of : PySem.W.findIn K (.ref C_Sites) "house_of" = some (some (.ref f_Sites_house_of)))
    (i_Sites_house_of : PySem.W.isFn K (.ref f_Sites_house_of) = true)
    (l_Sites_house_of : K.lookup f_Sites_house_of = some ⟨oc_Sites_house_of, od_Sites_house_of, .func (PySem.W.fnOf "house_of" "Sites.house_of" (defArgs s_Sites_house_of) (defBody s_Sites_house_of) (defScope s_Sites_house_of) .none kV_Sites_house_of dc_Sites_house_of pm_Sites_house_of an_Sites_house_of cd_Sites_house_of ct_Sites_house_of), sl_Sites_house_of⟩)
    (c_Sites_house_of : PySem.W.codeIn K cd_Sites_house_of "Sites.house_of" = true)
    (k_Sites_house_of : PySem.W.keepIn K (.ref f_Sites_house_of) = true)
    (a_look_of : PySem.W.nsIn K mainGlobals "look_of" = some (some (.ref f_look_of)))
    (l_look_of : K.lookup f_look_of = some ⟨oc_look_of, od_look_of, .func (PySem.W.fnOf "look_of" "look_of" (defArgs s_look_of) (defBody s_look_of) (defScope s_look_of) .none kV_look_of dc_look_of pm_look_of an_look_of cd_look_of ct_look_of), sl_look_of⟩)
    (c_look_of : PySem.W.codeIn K cd_look_of "look_of" = true)
    (k_look_of : PySem.W.keepIn K (.ref f_look_of) = true)
    (a_looked : PySem.W.nsIn K mainGlobals "looked" = some (some (.ref f_looked)))
    (l_looked : K.lookup f_looked = some ⟨oc_looked, od_looked, .func (PySem.W.fnOf "looked" "looked" (defArgs s_looked) (defBody s_looked) (defScope s_looked) .none kV_looked dc_looked pm_looked an_looked cd_looked ct_looked), sl_looked⟩)
    (c_looked : PySem.W.codeIn K cd_looked "looked" = true)
    (k_looked : PySem.W.keepIn K (.ref f_looked) = true)
    (a_straight : PySem.W.nsIn K mainGlobals "straight" = some (some (.ref f_straight)))
    (l_straight : K.lookup f_straight = some ⟨oc_straight, od_straight, .func (PySem.W.fnOf "straight" "straight" (defArgs s_straight) (defBody s_straight) (defScope s_straight) .none kV_straight dc_straight pm_straight an_straight cd_straight ct_straight), sl_straight⟩)
    (c_straight : PySem.W.codeIn K cd_straight "straight" = true)
    (k_straight : PySem.W.keepIn K (.ref f_straight) = true)
    (a_held : PySem.W.nsIn K mainGlobals "held" = some (some (.ref f_held)))
    (l_held : K.lookup f_held = some ⟨oc_held, od_held, .func (PySem.W.fnOf "held" "held" (defArgs s_held) (defBody s_held) (defScope s_held) .none kV_held dc_held pm_held an_held cd_held ct_held), sl_held⟩)
    (c_held : PySem.W.codeIn K cd_held "held" = true)
    (k_held : PySem.W.keepIn K (.ref f_held) = true)
    (a_kept : PySem.W.nsIn K mainGlobals "kept" = some (some (.ref f_kept)))
    (l_kept : K.lookup f_kept = some ⟨oc_kept, od_kept, .func (PySem.W.fnOf "kept" "kept" (defArgs s_kept) (defBody s_kept) (defScope s_kept) .none kV_kept dc_kept pm_kept an_kept cd_kept ct_kept), sl_kept⟩)
    (c_kept : PySem.W.codeIn K cd_kept "kept" = true)
    (k_kept : PySem.W.keepIn K (.ref f_kept) = true)
    (a_lasts : PySem.W.nsIn K mainGlobals "lasts" = some (some (.ref f_lasts)))
    (l_lasts : K.lookup f_lasts = some ⟨oc_lasts, od_lasts, .func (PySem.W.fnOf "lasts" "lasts" (defArgs s_lasts) (defBody s_lasts) (defScope s_lasts) .none kV_lasts dc_lasts pm_lasts an_lasts cd_lasts ct_lasts), sl_lasts⟩)
    (c_lasts : PySem.W.codeIn K cd_lasts "lasts" = true)
    (k_lasts : PySem.W.keepIn K (.ref f_lasts) = true)
    (a_law : PySem.W.nsIn K mainGlobals "law" = some (some (.ref f_law)))
    (l_law : K.lookup f_law = some ⟨oc_law, od_law, .func (PySem.W.fnOf "law" "law" (defArgs s_law) (defBody s_law) (defScope s_law) .none kV_law dc_law pm_law an_law cd_law ct_law), sl_law⟩)
    (c_law : PySem.W.codeIn K cd_law "law" = true)
    (k_law : PySem.W.keepIn K (.ref f_law) = true) :
    ∃ fd : FuncData, (∀ (s : Shared) (v : Value), BindsTo s fd ⟨[v], []⟩ [("_law_script", v)]) ∧ ∀ base : Heap, K.In base → base.Ns mainGlobals mg → FnOk l.prog w K mg base CX0 15 fa fd ["_law_script"] (spLaw K) := by
  have e := hfa.symm.trans (PySem.W.mg_of X G a_law)
  cases e
  have cl_Function : Cls K C_Function := ⟨pg_Function, hd_Function, po_Function, sa_Function⟩
  have cl_Run : Cls K C_Run := ⟨pg_Run, hd_Run, po_Run, sa_Run⟩
  have cl_Sites : Cls K C_Sites := ⟨pg_Sites, hd_Sites, po_Sites, sa_Sites⟩
  have TB : TxtB mg := ⟨PySem.W.mg_none_of X G z_int, PySem.W.mg_none_of X G z_bool, PySem.W.mg_none_of X G z_tuple, PySem.W.mg_none_of X G z_len, PySem.W.mg_none_of X G z_range, PySem.W.mg_none_of X G z_sum, PySem.W.mg_none_of X G z_sorted, PySem.W.mg_none_of X G z_dict, PySem.W.mg_none_of X G z_list, PySem.W.mg_none_of X G z_isinstance, PySem.W.mg_none_of X G z_enumerate, PySem.W.mg_none_of X G z_set⟩
  have TP : TxtP K w mg a_SHAPES C_Sites := { toTxtB := TB, m_LIMIT := ⟨_, PySem.W.mg_of X G m_LIMIT⟩, m_NAMES := ⟨_, PySem.W.mg_of X G m_NAMES⟩, m_MOST_PARTS := ⟨_, PySem.W.mg_of X G m_MOST_PARTS⟩, m_MOST_WITHIN := ⟨_, PySem.W.mg_of X G m_MOST_WITHIN⟩, m_SHAPES := PySem.W.mg_of X G m_SHAPES, kd := ⟨_, _, ⟨l_SHAPES, kl_SHAPES, lo_SHAPES⟩⟩, shp := fun e => by cases e with | num => exact ⟨_, s_num, ⟨_, rfl⟩⟩ | name => exact ⟨_, s_name, ⟨_, rfl⟩⟩ | plus => exact ⟨_, s_plus, ⟨_, rfl⟩⟩ | lt => exact ⟨_, s_let, ⟨_, rfl⟩⟩ | fn => exact ⟨_, s_fun, ⟨_, rfl⟩⟩ | call => exact ⟨_, s_call, ⟨_, rfl⟩⟩ | ite => exact ⟨_, s_if, ⟨_, rfl⟩⟩, m_Sites := PySem.W.mg_of X G cC_Sites, cl_Sites := cl_Sites, n_owners := n_owners, n_funs := n_funs, n_used := n_used, n_tree := n_tree }
  have OF : OwnC K C_Function := ⟨cl_Function, o1, o2, o3, o4, kit_self, kit_ofT o5 o6 o7⟩
  have TR : TxtR K w mg a_SHAPES C_Sites C_Run C_Function := { toTxtP := TP, m_Run := PySem.W.mg_of X G cC_Run, m_Function := PySem.W.mg_of X G cC_Function, m_MOST_BEGUN := ⟨_, PySem.W.mg_of X G m_MOST_BEGUN⟩, own_F := OF, cl_Run := cl_Run, cl_Function := cl_Function, n_r := (List.forall_mem_cons.mpr ⟨nr_sites, (List.forall_mem_cons.mpr ⟨nr_left, (List.forall_mem_cons.mpr ⟨nr_owners, (List.forall_mem_cons.mpr ⟨nr_ups, (List.forall_mem_cons.mpr ⟨nr_worths, (List.forall_mem_cons.mpr ⟨nr_looks, (List.forall_mem_cons.mpr ⟨nr_made, (List.forall_mem_cons.mpr ⟨nr_work, (List.forall_mem_cons.mpr ⟨nr_results, (List.forall_mem_cons.mpr ⟨nr_outcome, (List.forall_mem_cons.mpr ⟨nr_result, (fun _ z => nomatch z)⟩)⟩)⟩)⟩)⟩)⟩)⟩)⟩)⟩)⟩)⟩), n_f := (List.forall_mem_cons.mpr ⟨nf_site, (List.forall_mem_cons.mpr ⟨nf_body, (List.forall_mem_cons.mpr ⟨nf_made_by, (fun _ z => nomatch z)⟩)⟩)⟩) }
  have TC : TxtC K w mg a_SHAPES C_Sites C_Run C_Function a_WAYS := { toTxtR := TR, m_WAYS := PySem.W.mg_of X G m_WAYS, ways := fun _ => .inr ⟨_, _, _, l_WAYS, rfl, rfl, z_WAYS, v_WAYS⟩ }
  have TH : TxtH K w mg a_SHAPES C_Sites C_Run C_Function a_WAYS := { toTxtC := TC, kN := kit_ofT o5 o6 o8 }
  have F__law_taken := fun_mk (st := s__law_taken) l__law_taken c__law_taken k__law_taken
  have b__law_taken := F__law_taken.binds (ps := ["_law_row", "_law_many"]) fun _ _ _ _ _ _ us hl => match us, hl with | [_, _], _ => rfl
  have A__law_taken : At K mg "_law_taken" s__law_taken ["_law_row", "_law_many"] _ _ := ⟨F__law_taken, PySem.W.mg_of X G a__law_taken, b__law_taken⟩
  have F__law_bound := fun_mk (st := s__law_bound) l__law_bound c__law_bound k__law_bound
  have b__law_bound := F__law_bound.binds (ps := ["_law_scope", "_law_name", "_law_sort"]) fun _ _ _ _ _ _ us hl => match us, hl with | [_, _, _], _ => rfl
  have A__law_bound : At K mg "_law_bound" s__law_bound ["_law_scope", "_law_name", "_law_sort"] _ _ := ⟨F__law_bound, PySem.W.mg_of X G a__law_bound, b__law_bound⟩
  have F__law_names := fun_mk (st := s__law_names) l__law_names c__law_names k__law_names
  have b__law_names := F__law_names.binds (ps := ["_law_scope", "_law_want"]) fun _ _ _ _ _ _ us hl => match us, hl with | [_, _], _ => rfl
  have A__law_names : At K mg "_law_names" s__law_names ["_law_scope", "_law_want"] _ _ := ⟨F__law_names, PySem.W.mg_of X G a__law_names, b__law_names⟩
  have F__law_leaf := fun_mk (st := s__law_leaf) l__law_leaf c__law_leaf k__law_leaf
  have b__law_leaf := F__law_leaf.binds (ps := ["_law_row", "_law_scope", "_law_want"]) fun _ _ _ _ _ _ us hl => match us, hl with | [_, _, _], _ => rfl
  have A__law_leaf : At K mg "_law_leaf" s__law_leaf ["_law_row", "_law_scope", "_law_want"] _ _ := ⟨F__law_leaf, PySem.W.mg_of X G a__law_leaf, b__law_leaf⟩
  have F__law_e := fun_mk (st := s__law_e) l__law_e c__law_e k__law_e
  have b__law_e := F__law_e.binds (ps := ["_law_row", "_law_scope", "_law_want", "_law_deep", "_law_box"]) fun _ _ _ _ _ _ us hl => match us, hl with | [_, _, _, _, _], _ => rfl
  have A__law_e : At K mg "_law_e" s__law_e ["_law_row", "_law_scope", "_law_want", "_law_deep", "_law_box"] _ _ := ⟨F__law_e, PySem.W.mg_of X G a__law_e, b__law_e⟩
  have F__law_size := fun_mk (st := s__law_size) l__law_size c__law_size k__law_size
  have b__law_size := F__law_size.binds (ps := ["_law_e_here"]) fun _ _ _ _ _ _ us hl => match us, hl with | [_], _ => rfl
  have A__law_size : At K mg "_law_size" s__law_size ["_law_e_here"] _ _ := ⟨F__law_size, PySem.W.mg_of X G a__law_size, b__law_size⟩
  have F__law_few := fun_mk (st := s__law_few) l__law_few c__law_few k__law_few
  have b__law_few := F__law_few.binds (ps := ["_law_row", "_law_want"]) fun _ _ _ _ _ _ us hl => match us, hl with | [_, _], _ => rfl
  have A__law_few : At K mg "_law_few" s__law_few ["_law_row", "_law_want"] _ _ := ⟨F__law_few, PySem.W.mg_of X G a__law_few, b__law_few⟩
  have F__law_any := fun_mk (st := s__law_any) l__law_any c__law_any k__law_any
  have b__law_any := F__law_any.binds (ps := ["_law_row"]) fun _ _ _ _ _ _ us hl => match us, hl with | [_], _ => rfl
  have A__law_any : At K mg "_law_any" s__law_any ["_law_row"] _ _ := ⟨F__law_any, PySem.W.mg_of X G a__law_any, b__law_any⟩
  have F_is_number := fun_mk (st := s_is_number) l_is_number c_is_number k_is_number
  have b_is_number := F_is_number.binds (ps := ["part", "below"]) fun _ _ _ _ _ _ us hl => match us, hl with | [_, _], _ => rfl
  have A_is_number : At K mg "is_number" s_is_number ["part", "below"] _ _ := ⟨F_is_number, PySem.W.mg_of X G a_is_number, b_is_number⟩
  have F_names_in := fun_mk (st := s_names_in) l_names_in c_names_in k_names_in
  have b_names_in := F_names_in.binds (ps := ["e", "at", "names"]) fun _ _ _ _ _ _ us hl => match us, hl with | [_, _, _], _ => rfl
  have A_names_in : At K mg "names_in" s_names_in ["e", "at", "names"] _ _ := ⟨F_names_in, PySem.W.mg_of X G a_names_in, b_names_in⟩
  have F_is_expression := fun_mk (st := s_is_expression) l_is_expression c_is_expression k_is_expression
  have b_is_expression := F_is_expression.binds (ps := ["e", "names", "within"]) fun _ _ _ _ _ _ us hl => match us, hl with | [_, _, _], _ => rfl
  have A_is_expression : At K mg "is_expression" s_is_expression ["e", "names", "within"] _ _ := ⟨F_is_expression, PySem.W.mg_of X G a_is_expression, b_is_expression⟩
  have F_parts_of := fun_mk (st := s_parts_of) l_parts_of c_parts_of k_parts_of
  have b_parts_of := F_parts_of.binds (ps := ["e"]) fun _ _ _ _ _ _ us hl => match us, hl with | [_], _ => rfl
  have A_parts_of : At K mg "parts_of" s_parts_of ["e"] _ _ := ⟨F_parts_of, PySem.W.mg_of X G a_parts_of, b_parts_of⟩
  have F_count := fun_mk (st := s_count) l_count c_count k_count
  have b_count := F_count.binds (ps := ["e"]) fun _ _ _ _ _ _ us hl => match us, hl with | [_], _ => rfl
  have A_count : At K mg "count" s_count ["e"] _ _ := ⟨F_count, PySem.W.mg_of X G a_count, b_count⟩
  have F_need_program := fun_mk (st := s_need_program) l_need_program c_need_program k_need_program
  have b_need_program := F_need_program.binds (ps := ["program"]) fun _ _ _ _ _ _ us hl => match us, hl with | [_], _ => rfl
  have A_need_program : At K mg "need_program" s_need_program ["program"] _ _ := ⟨F_need_program, PySem.W.mg_of X G a_need_program, b_need_program⟩
  have F_with_name := fun_mk (st := s_with_name) l_with_name c_with_name k_with_name
  have b_with_name := F_with_name.binds (ps := ["scope", "name", "site"]) fun _ _ _ _ _ _ us hl => match us, hl with | [_, _, _], _ => rfl
  have A_with_name : At K mg "with_name" s_with_name ["scope", "name", "site"] _ _ := ⟨F_with_name, PySem.W.mg_of X G a_with_name, b_with_name⟩
  have F_Sites_new_site := fun_mk (st := s_Sites_new_site) l_Sites_new_site c_Sites_new_site k_Sites_new_site
  have b_Sites_new_site := F_Sites_new_site.binds (ps := ["self", "owner", "is_fun"]) fun _ _ _ _ _ _ us hl => match us, hl with | [_, _, _], _ => rfl
  have A_Sites_new_site : AtM K C_Sites "new_site" "Sites.new_site" s_Sites_new_site ["self", "owner", "is_fun"] f_Sites_new_site _ := ⟨F_Sites_new_site, ⟨a_Sites_new_site, i_Sites_new_site, k_Sites_new_site⟩, b_Sites_new_site⟩
  have F_Sites_sited := fun_mk (st := s_Sites_sited) l_Sites_sited c_Sites_sited k_Sites_sited
  have b_Sites_sited := F_Sites_sited.binds (ps := ["self", "e", "scope", "owner", "around"]) fun _ _ _ _ _ _ us hl => match us, hl with | [_, _, _, _, _], _ => rfl
  have A_Sites_sited : AtM K C_Sites "sited" "Sites.sited" s_Sites_sited ["self", "e", "scope", "owner", "around"] f_Sites_sited _ := ⟨F_Sites_sited, ⟨a_Sites_sited, i_Sites_sited, k_Sites_sited⟩, b_Sites_sited⟩
  have F_Sites___init__ := fun_mk (st := s_Sites___init__) l_Sites___init__ c_Sites___init__ k_Sites___init__
  have b_Sites___init__ := F_Sites___init__.binds (ps := ["self", "program"]) fun _ _ _ _ _ _ us hl => match us, hl with | [_, _], _ => rfl
  have A_Sites___init__ : AtC K C_Sites "Sites.__init__" s_Sites___init__ ["self", "program"] f_Sites___init__ _ := ⟨F_Sites___init__, ⟨mk_Sites___init__, a_Sites___init__, i_Sites___init__, kc_Sites___init__⟩, b_Sites___init__⟩
  have F_need_most := fun_mk (st := s_need_most) l_need_most c_need_most k_need_most
  have b_need_most := F_need_most.binds (ps := ["most"]) fun _ _ _ _ _ _ us hl => match us, hl with | [_], _ => rfl
  have A_need_most : At K mg "need_most" s_need_most ["most"] _ _ := ⟨F_need_most, PySem.W.mg_of X G a_need_most, b_need_most⟩
  have F_Run_holder := fun_mk (st := s_Run_holder) l_Run_holder c_Run_holder k_Run_holder
  have b_Run_holder := F_Run_holder.binds (ps := ["self", "here", "site"]) fun _ _ _ _ _ _ us hl => match us, hl with | [_, _, _], _ => rfl
  have A_Run_holder : AtM K C_Run "holder" "Run.holder" s_Run_holder ["self", "here", "site"] f_Run_holder _ := ⟨F_Run_holder, ⟨a_Run_holder, i_Run_holder, k_Run_holder⟩, b_Run_holder⟩
  have F_Function___init__ := fun_mk (st := s_Function___init__) l_Function___init__ c_Function___init__ k_Function___init__
  have b_Function___init__ := F_Function___init__.binds (ps := ["self", "site", "body", "made_by"]) fun _ _ _ _ _ _ us hl => match us, hl with | [_, _, _, _], _ => rfl
  have A_Function___init__ : AtC K C_Function "Function.__init__" s_Function___init__ ["self", "site", "body", "made_by"] f_Function___init__ _ := ⟨F_Function___init__, ⟨mk_Function___init__, a_Function___init__, i_Function___init__, kc_Function___init__⟩, b_Function___init__⟩
  have F_Run_do := fun_mk (st := s_Run_do) l_Run_do c_Run_do k_Run_do
  have b_Run_do := F_Run_do.binds (ps := ["self", "e", "here"]) fun _ _ _ _ _ _ us hl => match us, hl with | [_, _, _], _ => rfl
  have A_Run_do : AtM K C_Run "do" "Run.do" s_Run_do ["self", "e", "here"] f_Run_do _ := ⟨F_Run_do, ⟨a_Run_do, i_Run_do, k_Run_do⟩, b_Run_do⟩
  have F_Run_plus := fun_mk (st := s_Run_plus) l_Run_plus c_Run_plus k_Run_plus
  have b_Run_plus := F_Run_plus.binds (ps := ["self"]) fun _ _ _ _ _ _ us hl => match us, hl with | [_], _ => rfl
  have A_Run_plus : AtM K C_Run "plus" "Run.plus" s_Run_plus ["self"] f_Run_plus _ := ⟨F_Run_plus, ⟨a_Run_plus, i_Run_plus, k_Run_plus⟩, b_Run_plus⟩
  have F_Run_choose := fun_mk (st := s_Run_choose) l_Run_choose c_Run_choose k_Run_choose
  have b_Run_choose := F_Run_choose.binds (ps := ["self", "task"]) fun _ _ _ _ _ _ us hl => match us, hl with | [_, _], _ => rfl
  have A_Run_choose : AtM K C_Run "choose" "Run.choose" s_Run_choose ["self", "task"] f_Run_choose _ := ⟨F_Run_choose, ⟨a_Run_choose, i_Run_choose, k_Run_choose⟩, b_Run_choose⟩
  have F_Run_call := fun_mk (st := s_Run_call) l_Run_call c_Run_call k_Run_call
  have b_Run_call := F_Run_call.binds (ps := ["self"]) fun _ _ _ _ _ _ us hl => match us, hl with | [_], _ => rfl
  have A_Run_call : AtM K C_Run "call" "Run.call" s_Run_call ["self"] f_Run_call _ := ⟨F_Run_call, ⟨a_Run_call, i_Run_call, k_Run_call⟩, b_Run_call⟩
  have F_Run_step := fun_mk (st := s_Run_step) l_Run_step c_Run_step k_Run_step
  have b_Run_step := F_Run_step.binds (ps := ["self", "task"]) fun _ _ _ _ _ _ us hl => match us, hl with | [_, _], _ => rfl
  have A_Run_step : AtM K C_Run "step" "Run.step" s_Run_step ["self", "task"] f_Run_step _ := ⟨F_Run_step, ⟨a_Run_step, i_Run_step, k_Run_step⟩, b_Run_step⟩
  have F_outcome_of := fun_mk (st := s_outcome_of) l_outcome_of c_outcome_of k_outcome_of
  have b_outcome_of := F_outcome_of.binds (ps := ["result"]) fun _ _ _ _ _ _ us hl => match us, hl with | [_], _ => rfl
  have A_outcome_of : At K mg "outcome_of" s_outcome_of ["result"] _ _ := ⟨F_outcome_of, PySem.W.mg_of X G a_outcome_of, b_outcome_of⟩
  have F_Run___init__ := fun_mk (st := s_Run___init__) l_Run___init__ c_Run___init__ k_Run___init__
  have b_Run___init__ := F_Run___init__.binds (ps := ["self", "sites", "most"]) fun _ _ _ _ _ _ us hl => match us, hl with | [_, _, _], _ => rfl
  have A_Run___init__ : AtC K C_Run "Run.__init__" s_Run___init__ ["self", "sites", "most"] f_Run___init__ _ := ⟨F_Run___init__, ⟨mk_Run___init__, a_Run___init__, i_Run___init__, kc_Run___init__⟩, b_Run___init__⟩
  have F_run_of := fun_mk (st := s_run_of) l_run_of c_run_of k_run_of
  have b_run_of := F_run_of.binds (ps := ["program", "most"]) fun _ _ _ _ _ _ us hl => match us, hl with | [_, _], _ => rfl
  have A_run_of : At K mg "run_of" s_run_of ["program", "most"] _ _ := ⟨F_run_of, PySem.W.mg_of X G a_run_of, b_run_of⟩
  have F_ran := fun_mk (st := s_ran) l_ran c_ran k_ran
  have b_ran := F_ran.binds (ps := ["program", "most"]) fun _ _ _ _ _ _ us hl => match us, hl with | [_, _], _ => rfl
  have A_ran : At K mg "ran" s_ran ["program", "most"] _ _ := ⟨F_ran, PySem.W.mg_of X G a_ran, b_ran⟩
  have F_need_way := fun_mk (st := s_need_way) l_need_way c_need_way k_need_way
  have b_need_way := F_need_way.binds (ps := ["program", "way"]) fun _ _ _ _ _ _ us hl => match us, hl with | [_, _], _ => rfl
  have A_need_way : At K mg "need_way" s_need_way ["program", "way"] _ _ := ⟨F_need_way, PySem.W.mg_of X G a_need_way, b_need_way⟩
  have F_Sites_sites_of := fun_mk (st := s_Sites_sites_of) l_Sites_sites_of c_Sites_sites_of k_Sites_sites_of
  have b_Sites_sites_of := F_Sites_sites_of.binds (ps := ["self", "owner"]) fun _ _ _ _ _ _ us hl => match us, hl with | [_, _], _ => rfl
  have A_Sites_sites_of : AtM K C_Sites "sites_of" "Sites.sites_of" s_Sites_sites_of ["self", "owner"] f_Sites_sites_of _ := ⟨F_Sites_sites_of, ⟨a_Sites_sites_of, i_Sites_sites_of, k_Sites_sites_of⟩, b_Sites_sites_of⟩
  have F_Sites_house_of := fun_mk (st := s_Sites_house_of) l_Sites_house_of c_Sites_house_of k_Sites_house_of
  have b_Sites_house_of := F_Sites_house_of.binds (ps := ["self", "owner"]) fun _ _ _ _ _ _ us hl => match us, hl with | [_, _], _ => rfl
  have A_Sites_house_of : AtM K C_Sites "house_of" "Sites.house_of" s_Sites_house_of ["self", "owner"] f_Sites_house_of _ := ⟨F_Sites_house_of, ⟨a_Sites_house_of, i_Sites_house_of, k_Sites_house_of⟩, b_Sites_house_of⟩
  have F_look_of := fun_mk (st := s_look_of) l_look_of c_look_of k_look_of
  have b_look_of := F_look_of.binds (ps := ["run", "way", "here", "there"]) fun _ _ _ _ _ _ us hl => match us, hl with | [_, _, _, _], _ => rfl
  have A_look_of : At K mg "look_of" s_look_of ["run", "way", "here", "there"] _ _ := ⟨F_look_of, PySem.W.mg_of X G a_look_of, b_look_of⟩
  have F_looked := fun_mk (st := s_looked) l_looked c_looked k_looked
  have b_looked := F_looked.binds (ps := ["program", "way", "most"]) fun _ _ _ _ _ _ us hl => match us, hl with | [_, _, _], _ => rfl
  have A_looked : At K mg "looked" s_looked ["program", "way", "most"] _ _ := ⟨F_looked, PySem.W.mg_of X G a_looked, b_looked⟩
  have F_straight := fun_mk (st := s_straight) l_straight c_straight k_straight
  have b_straight := F_straight.binds (ps := ["run", "way", "function"]) fun _ _ _ _ _ _ us hl => match us, hl with | [_, _, _], _ => rfl
  have A_straight : At K mg "straight" s_straight ["run", "way", "function"] _ _ := ⟨F_straight, PySem.W.mg_of X G a_straight, b_straight⟩
  have F_held := fun_mk (st := s_held) l_held c_held k_held
  have b_held := F_held.binds (ps := ["run", "way"]) fun _ _ _ _ _ _ us hl => match us, hl with | [_, _], _ => rfl
  have A_held : At K mg "held" s_held ["run", "way"] _ _ := ⟨F_held, PySem.W.mg_of X G a_held, b_held⟩
  have F_kept := fun_mk (st := s_kept) l_kept c_kept k_kept
  have b_kept := F_kept.binds (ps := ["program", "way", "most"]) fun _ _ _ _ _ _ us hl => match us, hl with | [_, _, _], _ => rfl
  have A_kept : At K mg "kept" s_kept ["program", "way", "most"] _ _ := ⟨F_kept, PySem.W.mg_of X G a_kept, b_kept⟩
  have F_lasts := fun_mk (st := s_lasts) l_lasts c_lasts k_lasts
  have b_lasts := F_lasts.binds (ps := ["program", "most"]) fun _ _ _ _ _ _ us hl => match us, hl with | [_, _], _ => rfl
  have A_lasts : At K mg "lasts" s_lasts ["program", "most"] _ _ := ⟨F_lasts, PySem.W.mg_of X G a_lasts, b_lasts⟩
  have F_law := fun_mk (st := s_law) l_law c_law k_law
  have b_law := F_law.binds (ps := ["_law_script"]) fun _ _ _ _ _ _ us hl => match us, hl with | [_], _ => rfl
  have A_law : At K mg "law" s_law ["_law_script"] _ _ := ⟨F_law, PySem.W.mg_of X G a_law, b_law⟩
  refine ⟨(PySem.W.fnOf "law" "law" (defArgs s_law) (defBody s_law) (defScope s_law) .none kV_law dc_law pm_law an_law cd_law ct_law), fun s v => .of_eq rfl, fun base _ _ => ?_⟩
  have h__law_taken := ok__law_taken (P := l.prog) (w := w) (base := base) A__law_taken TB  
  have h__law_bound := ok__law_bound (P := l.prog) (w := w) (base := base) A__law_bound TB  
  have h__law_names := ok__law_names (P := l.prog) (w := w) (base := base) A__law_names TB  
  have h__law_leaf := ok__law_leaf (P := l.prog) (w := w) (base := base) A__law_leaf TB h__law_taken h__law_names h__law_bound 
  have h__law_e_4 := ok__law_e (P := l.prog) (w := w) (base := base) A__law_e TB h__law_taken h__law_bound h__law_leaf 4
  have h__law_size_5 := ok__law_size (P := l.prog) (w := w) (base := base) A__law_size TB  5
  have h__law_few := ok__law_few (P := l.prog) (w := w) (base := base) A__law_few TB h__law_e_4 h__law_size_5 
  have h__law_any := ok__law_any (P := l.prog) (w := w) (base := base) A__law_any TB h__law_taken h__law_few 
  have h_is_number := ok_is_number (P := l.prog) (w := w) (base := base) A_is_number TP  
  have h_names_in := ok_names_in (P := l.prog) (w := w) (base := base) A_names_in TP  
  have h_is_expression_8 := ok_is_expression (P := l.prog) (w := w) (base := base) A_is_expression TP h_is_number h_names_in 8
  have h_parts_of := ok_parts_of (P := l.prog) (w := w) (base := base) A_parts_of TP  
  have h_count_8 := ok_count (P := l.prog) (w := w) (base := base) A_count TP h_parts_of 8
  have h_need_program := ok_need_program (P := l.prog) (w := w) (base := base) A_need_program TP h_is_expression_8 h_count_8 
  have h_with_name := ok_with_name (P := l.prog) (w := w) (base := base) A_with_name TB  
  have h_Sites_new_site := ok_new_site (P := l.prog) (w := w) (base := base) A_Sites_new_site TP  
  have h_Sites_sited_8 := ok_sited (P := l.prog) (w := w) (base := base) A_Sites_sited TP h_with_name h_Sites_new_site 8
  have h_Sites___init__ := ok_Sites (P := l.prog) (w := w) (base := base) A_Sites___init__ TP h_need_program h_Sites_sited_8 
  have h_need_most := ok_need_most (P := l.prog) (w := w) (base := base) A_need_most TR  
  have h_Run_holder := ok_Run_holder (P := l.prog) (w := w) (base := base) A_Run_holder TR  
  have h_Function___init__ := ok_Function (P := l.prog) (w := w) (base := base) A_Function___init__ TR  
  have h_Run_do := ok_Run_do (P := l.prog) (w := w) (base := base) A_Run_do TR h_Run_holder h_Function___init__ 
  have h_Run_plus := ok_Run_plus (P := l.prog) (w := w) (base := base) A_Run_plus TR  
  have h_Run_choose := ok_Run_choose (P := l.prog) (w := w) (base := base) A_Run_choose TR  
  have h_Run_call := ok_Run_call (P := l.prog) (w := w) (base := base) A_Run_call TR  
  have h_Run_step := ok_Run_step (P := l.prog) (w := w) (base := base) A_Run_step TR h_Run_do h_Run_plus h_Run_choose h_Run_call 
  have h_outcome_of := ok_outcome_of (P := l.prog) (w := w) (base := base) A_outcome_of TR  
  have h_Run___init__ := ok_Run (P := l.prog) (w := w) (base := base) A_Run___init__ TR h_Run_step h_outcome_of 
  have h_run_of := ok_run_of (P := l.prog) (w := w) (base := base) A_run_of TR h_Sites___init__ h_need_most h_Run___init__ 
  have h_ran := ok_ran (P := l.prog) (w := w) (base := base) A_ran TR h_run_of 
  have h_need_way := ok_need_way (P := l.prog) (w := w) (base := base) A_need_way TC h_need_program 
  have h_Sites_sites_of := ok_Sites_sites_of (P := l.prog) (w := w) (base := base) A_Sites_sites_of TP  
  have h_Sites_house_of := ok_Sites_house_of (P := l.prog) (w := w) (base := base) A_Sites_house_of TP h_Sites_sites_of 
  have h_look_of := ok_look_of (P := l.prog) (w := w) (base := base) A_look_of TC h_Sites_house_of 
  have h_looked := ok_looked (P := l.prog) (w := w) (base := base) A_looked TC h_need_way h_run_of h_look_of 
  have h_straight := ok_straight0 (P := l.prog) (w := w) (base := base) A_straight TB  
  have h_held := ok_held0 (P := l.prog) (w := w) (base := base) A_held TH h_straight 
  have h_kept := ok_kept0 (P := l.prog) (w := w) (base := base) A_kept TH h_need_way h_run_of h_held 
  have h_lasts := ok_lasts (P := l.prog) (w := w) (base := base) A_lasts TR h_run_of 
  exact ok_law (P := l.prog) (w := w) (base := base) A_law TH h__law_any h__law_taken h_ran h_looked h_kept h_lasts
theorem rd_there {H : Hp} {a : Addr} {o : HO} (h : Rd H a o) : ∃ o', H a = some o' := by
  rcases h with h | ⟨x, h⟩
  · exact ⟨_, h⟩
  · exact ⟨_, h⟩
theorem law_sp {K : PySem.W.Frag} {H : Hp} {a : Addr} {ns : List Int} (hl : ns.length ≤ 63) (hS : SqL K H a (ns.map V.int)) : spLaw K [.ref a] H (fun v _ => v = .bl true) fun _ _ _ => False := by
  rcases hS with h | h
  · exact ⟨a, ns, [a], rfl, ⟨.inl h, .inl ⟨rfl, rd_there h⟩⟩, hl, fun _ => rfl⟩
  · exact ⟨a, ns, [], rfl, ⟨.inr h, .inr ⟨rfl, fun _ => .inr h⟩⟩, hl, fun _ => rfl⟩
end EW

end
set_option maxHeartbeats 0
open_top head for PySem.Challenge.rw_envways_k19_whole_faults_put_together
open PySem PySem.W PyProof.Rows
theorem PySem.Challenge.cw_envways_k19_whole_faults_put_together_holds : PySem.Challenge.rw_envways_k19_whole_faults_put_together.Holds := by
  refine head ?_
  k_fill
  refine L2.walk_of (l := PySem.Challenge.rw_envways_k19_whole_faults_put_together) (n := 63) (k := 15) (x := "_law_script") (CX := fun _ => L2.CX0) (sp := fun w => EW.spLaw _) rfl (by decide) rfl ⟨rfl, by decide, by decide⟩ (fun w h Y => PySem.W.kIn_of Y) ?F (fun _ _ a ns hl _ hS => EW.law_sp hl hS) (fun _ _ _ _ _ h => h)
  case F =>
    intro w mg fa h KX G hmg
    refine' EW.all_mk KX G hmg ?cC_Function ?pg_Function ?hd_Function ?po_Function ?sa_Function ?cC_Run ?pg_Run ?hd_Run ?po_Run ?sa_Run ?cC_Sites ?pg_Sites ?hd_Sites ?po_Sites ?sa_Sites ?z_int ?z_bool ?z_tuple ?z_len ?z_range ?z_sum ?z_sorted ?z_dict ?z_list ?z_isinstance ?z_enumerate ?z_set ?m_LIMIT ?m_NAMES ?m_MOST_PARTS ?m_MOST_WITHIN ?m_SHAPES ?l_SHAPES ?kl_SHAPES ?lo_SHAPES ?s_num ?s_name ?s_plus ?s_let ?s_fun ?s_call ?s_if ?n_owners ?n_funs ?n_used ?n_tree ?m_MOST_BEGUN ?nr_sites ?nr_left ?nr_owners ?nr_ups ?nr_worths ?nr_looks ?nr_made ?nr_work ?nr_results ?nr_outcome ?nr_result ?nf_site ?nf_body ?nf_made_by ?o1 ?o2 ?o3 ?o4 ?o5 ?o6 ?o7 ?m_WAYS ?l_WAYS ?z_WAYS ?v_WAYS ?o8 ?a__law_taken ?l__law_taken ?c__law_taken ?k__law_taken ?a__law_bound ?l__law_bound ?c__law_bound ?k__law_bound ?a__law_names ?l__law_names ?c__law_names ?k__law_names ?a__law_leaf ?l__law_leaf ?c__law_leaf ?k__law_leaf ?a__law_e ?l__law_e ?c__law_e ?k__law_e ?a__law_size ?l__law_size ?c__law_size ?k__law_size ?a__law_few ?l__law_few ?c__law_few ?k__law_few ?a__law_any ?l__law_any ?c__law_any ?k__law_any ?a_is_number ?l_is_number ?c_is_number ?k_is_number ?a_names_in ?l_names_in ?c_names_in ?k_names_in ?a_is_expression ?l_is_expression ?c_is_expression ?k_is_expression ?a_parts_of ?l_parts_of ?c_parts_of ?k_parts_of ?a_count ?l_count ?c_count ?k_count ?a_need_program ?l_need_program ?c_need_program ?k_need_program ?a_with_name ?l_with_name ?c_with_name ?k_with_name ?a_Sites_new_site ?i_Sites_new_site ?l_Sites_new_site ?c_Sites_new_site ?k_Sites_new_site ?a_Sites_sited ?i_Sites_sited ?l_Sites_sited ?c_Sites_sited ?k_Sites_sited ?a_Sites___init__ ?i_Sites___init__ ?mk_Sites___init__ ?kc_Sites___init__ ?l_Sites___init__ ?c_Sites___init__ ?k_Sites___init__ ?a_need_most ?l_need_most ?c_need_most ?k_need_most ?a_Run_holder ?i_Run_holder ?l_Run_holder ?c_Run_holder ?k_Run_holder ?a_Function___init__ ?i_Function___init__ ?mk_Function___init__ ?kc_Function___init__ ?l_Function___init__ ?c_Function___init__ ?k_Function___init__ ?a_Run_do ?i_Run_do ?l_Run_do ?c_Run_do ?k_Run_do ?a_Run_plus ?i_Run_plus ?l_Run_plus ?c_Run_plus ?k_Run_plus ?a_Run_choose ?i_Run_choose ?l_Run_choose ?c_Run_choose ?k_Run_choose ?a_Run_call ?i_Run_call ?l_Run_call ?c_Run_call ?k_Run_call ?a_Run_step ?i_Run_step ?l_Run_step ?c_Run_step ?k_Run_step ?a_outcome_of ?l_outcome_of ?c_outcome_of ?k_outcome_of ?a_Run___init__ ?i_Run___init__ ?mk_Run___init__ ?kc_Run___init__ ?l_Run___init__ ?c_Run___init__ ?k_Run___init__ ?a_run_of ?l_run_of ?c_run_of ?k_run_of ?a_ran ?l_ran ?c_ran ?k_ran ?a_need_way ?l_need_way ?c_need_way ?k_need_way ?a_Sites_sites_of ?i_Sites_sites_of ?l_Sites_sites_of ?c_Sites_sites_of ?k_Sites_sites_of ?a_Sites_house_of ?i_Sites_house_of ?l_Sites_house_of ?c_Sites_house_of ?k_Sites_house_of ?a_look_of ?l_look_of ?c_look_of ?k_look_of ?a_looked ?l_looked ?c_looked ?k_looked ?a_straight ?l_straight ?c_straight ?k_straight ?a_held ?l_held ?c_held ?k_held ?a_kept ?l_kept ?c_kept ?k_kept ?a_lasts ?l_lasts ?c_lasts ?k_lasts ?a_law ?l_law ?c_law ?k_law
    (case cC_Function => k_is)
    (case pg_Function => k_is)
    (case hd_Function => k_is)
    (case po_Function => k_is)
    (case sa_Function => k_is)
    (case cC_Run => k_is)
    (case pg_Run => k_is)
    (case hd_Run => k_is)
    (case po_Run => k_is)
    (case sa_Run => k_is)
    (case cC_Sites => k_is)
    (case pg_Sites => k_is)
    (case hd_Sites => k_is)
    (case po_Sites => k_is)
    (case sa_Sites => k_is)
    (case z_int => k_is)
    (case z_bool => k_is)
    (case z_tuple => k_is)
    (case z_len => k_is)
    (case z_range => k_is)
    (case z_sum => k_is)
    (case z_sorted => k_is)
    (case z_dict => k_is)
    (case z_list => k_is)
    (case z_isinstance => k_is)
    (case z_enumerate => k_is)
    (case z_set => k_is)
    (case m_LIMIT => k_is)
    (case m_NAMES => k_is)
    (case m_MOST_PARTS => k_is)
    (case m_MOST_WITHIN => k_is)
    (case m_SHAPES => k_is)
    (case l_SHAPES => k_is)
    (case kl_SHAPES => exact ⟨⟨_, _, rfl, rfl⟩, ⟨_, _, rfl, rfl⟩, ⟨_, _, rfl, rfl⟩, ⟨_, _, rfl, rfl⟩, ⟨_, _, rfl, rfl⟩, ⟨_, _, rfl, rfl⟩, ⟨_, _, rfl, rfl⟩, trivial⟩)
    (case lo_SHAPES => decide +kernel)
    (case s_num => k_is)
    (case s_name => k_is)
    (case s_plus => k_is)
    (case s_let => k_is)
    (case s_fun => k_is)
    (case s_call => k_is)
    (case s_if => k_is)
    (case n_owners => k_is)
    (case n_funs => k_is)
    (case n_used => k_is)
    (case n_tree => k_is)
    (case m_MOST_BEGUN => k_is)
    (case nr_sites => k_is)
    (case nr_left => k_is)
    (case nr_owners => k_is)
    (case nr_ups => k_is)
    (case nr_worths => k_is)
    (case nr_looks => k_is)
    (case nr_made => k_is)
    (case nr_work => k_is)
    (case nr_results => k_is)
    (case nr_outcome => k_is)
    (case nr_result => k_is)
    (case nf_site => k_is)
    (case nf_body => k_is)
    (case nf_made_by => k_is)
    (case o1 => k_is)
    (case o2 => k_is)
    (case o3 => k_is)
    (case o4 => k_is)
    (case o5 => k_is)
    (case o6 => k_is)
    (case o7 => k_is)
    (case m_WAYS => k_is)
    (case l_WAYS => k_is)
    (case z_WAYS => decide)
    (case v_WAYS => exact .cons ⟨_, rfl⟩ (.cons ⟨_, rfl⟩ (.cons ⟨_, rfl⟩ .nil)))
    (case o8 => k_is)
    (case a__law_taken => k_is)
    (case l__law_taken => k_is)
    (case c__law_taken => k_is)
    (case k__law_taken => k_is)
    (case a__law_bound => k_is)
    (case l__law_bound => k_is)
    (case c__law_bound => k_is)
    (case k__law_bound => k_is)
    (case a__law_names => k_is)
    (case l__law_names => k_is)
    (case c__law_names => k_is)
    (case k__law_names => k_is)
    (case a__law_leaf => k_is)
    (case l__law_leaf => k_is)
    (case c__law_leaf => k_is)
    (case k__law_leaf => k_is)
    (case a__law_e => k_is)
    (case l__law_e => k_is)
    (case c__law_e => k_is)
    (case k__law_e => k_is)
    (case a__law_size => k_is)
    (case l__law_size => k_is)
    (case c__law_size => k_is)
    (case k__law_size => k_is)
    (case a__law_few => k_is)
    (case l__law_few => k_is)
    (case c__law_few => k_is)
    (case k__law_few => k_is)
    (case a__law_any => k_is)
    (case l__law_any => k_is)
    (case c__law_any => k_is)
    (case k__law_any => k_is)
    (case a_is_number => k_is)
    (case l_is_number => k_is)
    (case c_is_number => k_is)
    (case k_is_number => k_is)
    (case a_names_in => k_is)
    (case l_names_in => k_is)
    (case c_names_in => k_is)
    (case k_names_in => k_is)
    (case a_is_expression => k_is)
    (case l_is_expression => k_is)
    (case c_is_expression => k_is)
    (case k_is_expression => k_is)
    (case a_parts_of => k_is)
    (case l_parts_of => k_is)
    (case c_parts_of => k_is)
    (case k_parts_of => k_is)
    (case a_count => k_is)
    (case l_count => k_is)
    (case c_count => k_is)
    (case k_count => k_is)
    (case a_need_program => k_is)
    (case l_need_program => k_is)
    (case c_need_program => k_is)
    (case k_need_program => k_is)
    (case a_with_name => k_is)
    (case l_with_name => k_is)
    (case c_with_name => k_is)
    (case k_with_name => k_is)
    (case a_Sites_new_site => k_is)
    (case i_Sites_new_site => k_is)
    (case l_Sites_new_site => k_is)
    (case c_Sites_new_site => k_is)
    (case k_Sites_new_site => k_is)
    (case a_Sites_sited => k_is)
    (case i_Sites_sited => k_is)
    (case l_Sites_sited => k_is)
    (case c_Sites_sited => k_is)
    (case k_Sites_sited => k_is)
    (case a_Sites___init__ => k_is)
    (case i_Sites___init__ => k_is)
    (case mk_Sites___init__ => k_is)
    (case kc_Sites___init__ => k_is)
    (case l_Sites___init__ => k_is)
    (case c_Sites___init__ => k_is)
    (case k_Sites___init__ => k_is)
    (case a_need_most => k_is)
    (case l_need_most => k_is)
    (case c_need_most => k_is)
    (case k_need_most => k_is)
    (case a_Run_holder => k_is)
    (case i_Run_holder => k_is)
    (case l_Run_holder => k_is)
    (case c_Run_holder => k_is)
    (case k_Run_holder => k_is)
    (case a_Function___init__ => k_is)
    (case i_Function___init__ => k_is)
    (case mk_Function___init__ => k_is)
    (case kc_Function___init__ => k_is)
    (case l_Function___init__ => k_is)
    (case c_Function___init__ => k_is)
    (case k_Function___init__ => k_is)
    (case a_Run_do => k_is)
    (case i_Run_do => k_is)
    (case l_Run_do => k_is)
    (case c_Run_do => k_is)
    (case k_Run_do => k_is)
    (case a_Run_plus => k_is)
    (case i_Run_plus => k_is)
    (case l_Run_plus => k_is)
    (case c_Run_plus => k_is)
    (case k_Run_plus => k_is)
    (case a_Run_choose => k_is)
    (case i_Run_choose => k_is)
    (case l_Run_choose => k_is)
    (case c_Run_choose => k_is)
    (case k_Run_choose => k_is)
    (case a_Run_call => k_is)
    (case i_Run_call => k_is)
    (case l_Run_call => k_is)
    (case c_Run_call => k_is)
    (case k_Run_call => k_is)
    (case a_Run_step => k_is)
    (case i_Run_step => k_is)
    (case l_Run_step => k_is)
    (case c_Run_step => k_is)
    (case k_Run_step => k_is)
    (case a_outcome_of => k_is)
    (case l_outcome_of => k_is)
    (case c_outcome_of => k_is)
    (case k_outcome_of => k_is)
    (case a_Run___init__ => k_is)
    (case i_Run___init__ => k_is)
    (case mk_Run___init__ => k_is)
    (case kc_Run___init__ => k_is)
    (case l_Run___init__ => k_is)
    (case c_Run___init__ => k_is)
    (case k_Run___init__ => k_is)
    (case a_run_of => k_is)
    (case l_run_of => k_is)
    (case c_run_of => k_is)
    (case k_run_of => k_is)
    (case a_ran => k_is)
    (case l_ran => k_is)
    (case c_ran => k_is)
    (case k_ran => k_is)
    (case a_need_way => k_is)
    (case l_need_way => k_is)
    (case c_need_way => k_is)
    (case k_need_way => k_is)
    (case a_Sites_sites_of => k_is)
    (case i_Sites_sites_of => k_is)
    (case l_Sites_sites_of => k_is)
    (case c_Sites_sites_of => k_is)
    (case k_Sites_sites_of => k_is)
    (case a_Sites_house_of => k_is)
    (case i_Sites_house_of => k_is)
    (case l_Sites_house_of => k_is)
    (case c_Sites_house_of => k_is)
    (case k_Sites_house_of => k_is)
    (case a_look_of => k_is)
    (case l_look_of => k_is)
    (case c_look_of => k_is)
    (case k_look_of => k_is)
    (case a_looked => k_is)
    (case l_looked => k_is)
    (case c_looked => k_is)
    (case k_looked => k_is)
    (case a_straight => k_is)
    (case l_straight => k_is)
    (case c_straight => k_is)
    (case k_straight => k_is)
    (case a_held => k_is)
    (case l_held => k_is)
    (case c_held => k_is)
    (case k_held => k_is)
    (case a_kept => k_is)
    (case l_kept => k_is)
    (case c_kept => k_is)
    (case k_kept => k_is)
    (case a_lasts => k_is)
    (case l_lasts => k_is)
    (case c_lasts => k_is)
    (case k_lasts => k_is)
    (case a_law => k_is)
    (case l_law => k_is)
    (case c_law => k_is)
    (case k_law => k_is)
