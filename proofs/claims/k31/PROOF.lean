import PyProof.Rows.All
import Wide.All
import OpenK.AllK
import Wide.FinOn
import HandS.ForMost
import HandS.Exc
import HandS.ExcOwn
import HandS.ExcIs
import HandS.TryOnly
import HandS.CallSlots
import HandS.CallLocal
import HandS.Gcd
import HandS.TupAny
import HandS.TupMul
import HandS.Conv
import HandS.IsInst
import HandS.Deep
import HandS.Wide
import HandS.WideMore
import HandS.Style
import HandS.Flow
import HandS.Zip
import HandS.Walk
import HandS.Lambda
import HandS.Nested
import HandS.EndTab
import HandS.HeadHook4
import HandS.HeadWalk
import HandS.Head2
import HandS.Hot
import KE.SortData
import KE.LtData
import KE.GoesMore
import HandS.HotCalls
import HandS.ExcCtx
import HandS.Head3
import PySem.Challenge.RW_stepsgrafted_k31_whole_parted_rules
set_option Elab.async false
set_option linter.all false
set_option maxRecDepth 100000
/-! Mi: a small evaluator for the fragment of Python that these laws use. Values, stores, results. -/
namespace Mi
open PySem PySem.Spec PyProof.Rows L2

inductive PV where
  | non | bl (b : Bool) | int (i : Int) | str (x : List Nat)
  | tup (xs : List PV)
  | fl (xs : List PV)
  | lst (n : Nat)
  | g (i : Nat)

theorem PV.ind {P : PV → Prop} (hn : P .non) (hb : ∀ b, P (.bl b)) (hi : ∀ i, P (.int i)) (hs : ∀ x, P (.str x))
    (ht : ∀ xs, (∀ x, x ∈ xs → P x) → P (.tup xs)) (hf : ∀ xs, (∀ x, x ∈ xs → P x) → P (.fl xs)) (hl : ∀ n, P (.lst n)) (hg : ∀ i, P (.g i)) : ∀ x, P x := by
  intro x
  refine PV.rec (motive_1 := P) (motive_2 := fun xs => ∀ x, x ∈ xs → P x) hn hb hi hs (fun xs h => ht xs h) (fun xs h => hf xs h) hl hg ?_ ?_ x
  · intro y hy; cases hy
  · intro a l ha hl y hy
    rcases List.mem_cons.mp hy with e | e
    · rw [e]; exact ha
    · exact hl y e

inductive Cell where
  | lst (xs : List PV)
abbrev Sto := List Cell
def cellL (S : Sto) (n : Nat) : Option (List PV) := match S[n]? with
  | some (.lst xs) => some xs
  | none => none
inductive Slot where
  | un | pv (v : PV) | ex (c : Nat) (p : Option PV) | cl
abbrev Env := List Slot
inductive Res (α : Type) where
  | ok (a : α) (S : Sto) | exc (c : Nat) (p : Option PV) (S : Sto) | err
inductive RS where
  | nx (env : Env) (S : Sto) | rt (v : PV) (S : Sto) | bk (env : Env) (S : Sto) | ct (env : Env) (S : Sto) | exc (c : Nat) (p : Option PV) (env : Env) (S : Sto) | err
abbrev Call := Nat → List PV → Sto → Res PV
structure Cl where
  call : Call
  callL : Nat → (Call → Sto → Res PV) → Sto → Res PV
  act : Sto → Res PV
abbrev ME := Cl → Env → Sto → Res PV
abbrev MA := Cl → Env → Sto → Res (List PV)
abbrev MB := Cl → Env → Sto → Res Bool
abbrev MS := Cl → Env → Sto → RS
abbrev MG := PV → Env → Option Env

@[reducible] def bnd {α β : Type} (r : Res α) (k : α → Sto → Res β) : Res β := match r with
  | .ok a S => k a S
  | .exc c p S => .exc c p S
  | .err => .err
@[reducible] def bndS {α : Type} (r : Res α) (env : Env) (k : α → Sto → RS) : RS := match r with
  | .ok a S => k a S
  | .exc c p S => .exc c p env S
  | .err => .err
theorem bnd_ok {α β : Type} {a : α} {S : Sto} {k : α → Sto → Res β} : bnd (.ok a S) k = k a S := rfl
theorem bndS_ok {α : Type} {a : α} {S : Sto} {env : Env} {k : α → Sto → RS} : bndS (.ok a S) env k = k a S := rfl

/-! ### data: equality, order -/
def okD (S : Sto) : Nat → PV → Bool
  | _, .non => true
  | _, .bl _ => true
  | _, .int _ => true
  | _, .str l => l.all fun c => Nat.blt c 55296
  | 0, _ => false
  | n + 1, .tup xs => xs.all (okD S n)
  | n + 1, .fl xs => xs.all (okD S n)
  | n + 1, .lst i => match cellL S i with
    | some xs => xs.all (okD S n)
    | none => false
  | _ + 1, .g _ => false
def eqL (f : PV → PV → Bool) : List PV → List PV → Bool
  | [], [] => true
  | x :: xs, y :: ys => f x y && eqL f xs ys
  | _, _ => false
def seqD (S : Sto) : PV → Option (Bool × List PV)
  | .tup xs => some (true, xs)
  | .fl xs => some (false, xs)
  | .lst i => (cellL S i).map fun xs => (false, xs)
  | _ => none
def eqD (S : Sto) : Nat → PV → PV → Bool
  | _, .non, .non => true
  | _, .bl a, .bl b => a == b
  | _, .bl a, .int j => decide ((if a then 1 else 0) = j)
  | _, .int i, .bl b => decide (i = (if b then 1 else 0))
  | _, .int i, .int j => decide (i = j)
  | _, .str x, .str y => decide (x = y)
  | n + 1, a, b => match seqD S a, seqD S b with
    | some (k, xs), some (l, ys) => (k == l) && eqL (eqD S n) xs ys
    | _, _ => false
  | 0, _, _ => false

end Mi

set_option Elab.async false
set_option linter.all false
set_option maxRecDepth 100000
namespace Mi
open PySem PySem.Spec PyProof.Rows L2

/-- the globals: the written part, the addresses of numbered objects, the tables of code objects -/
structure Gc where
  K : PySem.W.Frag
  ga : Nat → Addr
  T : List (Addr × Str)

/-! ### values represented -/
mutual
def Rep (K : PySem.W.Frag) (ga : Nat → Addr) (H : Hp) (ι : Nat → Addr) (n : Nat) : PV → V → Prop
  | .non, v => v = .non
  | .bl b, v => v = .bl b
  | .int i, v => v = .int i
  | .str l, v => v = .str ⟨l.toArray⟩
  | .tup xs, v => ∃ a vs, v = .ref a ∧ SqT K H a vs ∧ Reps K ga H ι n xs vs
  | .fl xs, v => ∃ a vs, v = .ref a ∧ ((∃ o, H a = some (.frz o (.lst vs))) ∨ ∃ (o : Obj) (its : Array Value) (m : Nat), K.lookup a = some o ∧ o.cls = .type "list" ∧ o.dict = none ∧ o.data = .seq its m ∧ its.size ≤ sizeLine ∧ Vals vs its.toList) ∧ Reps K ga H ι n xs vs
  | .lst i, v => v = .ref (ι i) ∧ i < n
  | .g i, v => v = .ref (ga i)
def Reps (K : PySem.W.Frag) (ga : Nat → Addr) (H : Hp) (ι : Nat → Addr) (n : Nat) : List PV → List V → Prop
  | [], vs => vs = []
  | x :: xs, vs => ∃ v r, vs = v :: r ∧ Rep K ga H ι n x v ∧ Reps K ga H ι n xs r
end

section
variable {K : PySem.W.Frag} {ga : Nat → Addr} {H H' : Hp} {ι ι' : Nat → Addr} {n n' : Nat}

theorem Reps.len : ∀ {xs : List PV} {vs : List V}, Reps K ga H ι n xs vs → vs.length = xs.length
  | [], vs, h => by
    have e : vs = [] := by simpa [Reps] using h
    rw [e]; rfl
  | x :: xs, vs, h => by
    obtain ⟨v, r, rfl, _, h2⟩ := (show ∃ v r, vs = v :: r ∧ Rep K ga H ι n x v ∧ Reps K ga H ι n xs r by simpa [Reps] using h)
    rw [List.length_cons, List.length_cons, Reps.len h2]
theorem Reps.nil : Reps K ga H ι n [] [] := by simp [Reps]
theorem Reps.cons {x : PV} {xs : List PV} {v : V} {vs : List V} (h : Rep K ga H ι n x v) (t : Reps K ga H ι n xs vs) : Reps K ga H ι n (x :: xs) (v :: vs) := by
  simp only [Reps]
  exact ⟨v, vs, rfl, h, t⟩
theorem Reps.uncons {x : PV} {xs : List PV} {vs : List V} (h : Reps K ga H ι n (x :: xs) vs) : ∃ v r, vs = v :: r ∧ Rep K ga H ι n x v ∧ Reps K ga H ι n xs r := by
  simpa only [Reps] using h
theorem Reps.of_nil {vs : List V} (h : Reps K ga H ι n [] vs) : vs = [] := by simpa only [Reps] using h
theorem Reps.get : ∀ {xs : List PV} {vs : List V} {i : Nat} {x : PV}, Reps K ga H ι n xs vs → xs[i]? = some x → ∃ v, vs[i]? = some v ∧ Rep K ga H ι n x v
  | [], _, _, _, _, e => by simp at e
  | y :: xs, vs, 0, x, h, e => by
    obtain ⟨v, r, rfl, h1, _⟩ := h.uncons
    have e' : y = x := by simpa using e
    subst e'
    exact ⟨v, by simp, h1⟩
  | y :: xs, vs, i + 1, x, h, e => by
    obtain ⟨v, r, rfl, _, h2⟩ := h.uncons
    obtain ⟨u, e1, e2⟩ := Reps.get (i := i) h2 (by simpa using e)
    exact ⟨u, by simpa using e1, e2⟩
theorem Reps.app : ∀ {xs ys : List PV} {vs ws : List V}, Reps K ga H ι n xs vs → Reps K ga H ι n ys ws → Reps K ga H ι n (xs ++ ys) (vs ++ ws)
  | [], _, _, _, h, k => by rw [h.of_nil]; exact k
  | x :: xs, ys, vs, ws, h, k => by
    obtain ⟨v, r, rfl, h1, h2⟩ := h.uncons
    exact .cons h1 (Reps.app h2 k)
theorem Reps.take : ∀ {xs : List PV} {vs : List V} (k : Nat), Reps K ga H ι n xs vs → Reps K ga H ι n (xs.take k) (vs.take k)
  | _, _, 0, _ => by simpa using Reps.nil
  | [], vs, k + 1, h => by rw [h.of_nil]; simpa using Reps.nil
  | x :: xs, vs, k + 1, h => by
    obtain ⟨v, r, rfl, h1, h2⟩ := h.uncons
    exact .cons h1 (Reps.take k h2)
theorem Reps.drop : ∀ {xs : List PV} {vs : List V} (k : Nat), Reps K ga H ι n xs vs → Reps K ga H ι n (xs.drop k) (vs.drop k)
  | _, _, 0, h => by simpa using h
  | [], vs, k + 1, h => by rw [h.of_nil]; simpa using Reps.nil
  | x :: xs, vs, k + 1, h => by
    obtain ⟨v, r, rfl, h1, h2⟩ := h.uncons
    exact Reps.drop k h2
theorem Reps.set {y : PV} {u : V} (hy : Rep K ga H ι n y u) : ∀ {xs : List PV} {vs : List V} (k : Nat), Reps K ga H ι n xs vs → Reps K ga H ι n (xs.set k y) (vs.set k u)
  | [], vs, k, h => by rw [h.of_nil]; simpa using Reps.nil
  | x :: xs, vs, 0, h => by
    obtain ⟨v, r, rfl, h1, h2⟩ := h.uncons
    exact .cons hy h2
  | x :: xs, vs, k + 1, h => by
    obtain ⟨v, r, rfl, h1, h2⟩ := h.uncons
    exact .cons h1 (Reps.set hy k h2)
theorem Reps.rev : ∀ {xs : List PV} {vs : List V}, Reps K ga H ι n xs vs → Reps K ga H ι n xs.reverse vs.reverse
  | [], vs, h => by rw [h.of_nil]; simpa using Reps.nil
  | x :: xs, vs, h => by
    obtain ⟨v, r, rfl, h1, h2⟩ := h.uncons
    rw [List.reverse_cons, List.reverse_cons]
    exact (Reps.rev h2).app (.cons h1 .nil)
theorem Reps.repl {xs : List PV} {vs : List V} (h : Reps K ga H ι n xs vs) : ∀ k : Nat, Reps K ga H ι n (List.replicate k xs).flatten (List.replicate k vs).flatten
  | 0 => by simpa using Reps.nil
  | k + 1 => by
    rw [List.replicate_succ, List.replicate_succ, List.flatten_cons, List.flatten_cons]
    exact h.app (Reps.repl h k)
theorem Reps.none_of {xs : List PV} {vs : List V} {i : Nat} (h : Reps K ga H ι n xs vs) (e : xs[i]? = none) : vs[i]? = none := by
  have h1 := h.len
  have h2 : xs.length ≤ i := List.getElem?_eq_none_iff.mp e
  exact List.getElem?_eq_none_iff.mpr (by omega)

/-- what of the heap a value's reading leans on stays -/
structure Ex0 (H : Hp) (ι : Nat → Addr) (n : Nat) (H' : Hp) (ι' : Nat → Addr) (n' : Nat) : Prop where
  tup : ∀ a xs, H a = some (.tup xs) → H' a = some (.tup xs)
  frz : ∀ a o u, H a = some (.frz o u) → H' a = some (.frz o u)
  ext : ∀ a φ, H a = some (.ext φ) → H' a = some (.ext φ)
  ix : ∀ i, i < n → ι' i = ι i
  le : n ≤ n'
/-- .. and lists that are none of ours stay as they are -/
structure Ext (H : Hp) (ι : Nat → Addr) (n : Nat) (H' : Hp) (ι' : Nat → Addr) (n' : Nat) : Prop extends Ex0 H ι n H' ι' n' where
  oth : ∀ a vs, H a = some (.lst vs) → (∀ i, i < n → ι i ≠ a) → H' a = some (.lst vs) ∧ ∀ i, i < n' → ι' i ≠ a
theorem Ext.refl : Ext H ι n H ι n := ⟨⟨fun _ _ h => h, fun _ _ _ h => h, fun _ _ h => h, fun _ _ => rfl, Nat.le_refl _⟩, fun _ _ h k => ⟨h, k⟩⟩
theorem Ext.trans {H1 H2 H3 : Hp} {a b c : Nat → Addr} {i j k : Nat} (e : Ext H1 a i H2 b j) (f : Ext H2 b j H3 c k) : Ext H1 a i H3 c k :=
  ⟨⟨fun x xs h => f.tup x xs (e.tup x xs h), fun x o u h => f.frz x o u (e.frz x o u h), fun x φ h => f.ext x φ (e.ext x φ h), fun x h => (f.ix x (Nat.lt_of_lt_of_le h e.le)).trans (e.ix x h), Nat.le_trans e.le f.le⟩, fun x vs h k => let ⟨h1, k1⟩ := e.oth x vs h k; f.oth x vs h1 k1⟩
theorem Ex0.sqt {a : Addr} {vs : List V} (e : Ex0 H ι n H' ι' n') (h : SqT K H a vs) : SqT K H' a vs := by
  rcases h with (h | ⟨o, h⟩) | h
  · exact .inl (.inl (e.tup _ _ h))
  · exact .inl (.inr ⟨o, e.frz _ _ _ h⟩)
  · exact .inr h
theorem Reps.imp {R' : PV → V → Prop} : ∀ {xs : List PV} {vs : List V}, (∀ x, x ∈ xs → ∀ v, Rep K ga H ι n x v → Rep K ga H' ι' n' x v) → Reps K ga H ι n xs vs → Reps K ga H' ι' n' xs vs
  | [], vs, _, h => by rw [h.of_nil]; exact .nil
  | x :: xs, vs, f, h => by
    obtain ⟨v, r, rfl, h1, h2⟩ := h.uncons
    exact .cons (f x List.mem_cons_self v h1) (Reps.imp (R' := R') (fun y hy => f y (List.mem_cons_of_mem _ hy)) h2)
theorem Rep.ext0 (e : Ex0 H ι n H' ι' n') : ∀ (x : PV) (v : V), Rep K ga H ι n x v → Rep K ga H' ι' n' x v := by
  intro x
  refine PV.ind (P := fun x => ∀ v, Rep K ga H ι n x v → Rep K ga H' ι' n' x v) ?_ ?_ ?_ ?_ ?_ ?_ ?_ ?_ x
  · intro v h; simpa only [Rep] using h
  · intro b v h; simpa only [Rep] using h
  · intro i v h; simpa only [Rep] using h
  · intro l v h; simpa only [Rep] using h
  · intro xs ih v h
    simp only [Rep] at h ⊢
    obtain ⟨a, vs, e1, e2, e3⟩ := h
    exact ⟨a, vs, e1, e.sqt e2, e3.imp (R' := fun _ _ => True) ih⟩
  · intro xs ih v h
    simp only [Rep] at h ⊢
    obtain ⟨a, vs, e1, e2, e3⟩ := h
    refine ⟨a, vs, e1, ?_, e3.imp (R' := fun _ _ => True) ih⟩
    rcases e2 with ⟨o, e2⟩ | e2
    · exact .inl ⟨o, e.frz _ _ _ e2⟩
    · exact .inr e2
  · intro i v h
    simp only [Rep] at h ⊢
    obtain ⟨e1, e2⟩ := h
    exact ⟨by rw [e1, e.ix i e2], Nat.lt_of_lt_of_le e2 e.le⟩
  · intro i v h; simpa only [Rep] using h
theorem Reps.ext0 (e : Ex0 H ι n H' ι' n') {xs : List PV} {vs : List V} (h : Reps K ga H ι n xs vs) : Reps K ga H' ι' n' xs vs := h.imp (R' := fun _ _ => True) fun x _ v => Rep.ext0 e x v
theorem Rep.ext (e : Ext H ι n H' ι' n') (x : PV) (v : V) (h : Rep K ga H ι n x v) : Rep K ga H' ι' n' x v := Rep.ext0 e.toEx0 x v h
theorem Reps.ext (e : Ext H ι n H' ι' n') {xs : List PV} {vs : List V} (h : Reps K ga H ι n xs vs) : Reps K ga H' ι' n' xs vs := Reps.ext0 e.toEx0 h

/-! ### below: no reference from m on -/
end
mutual
def below (m : Nat) : PV → Bool
  | .tup xs => belows m xs
  | .fl xs => belows m xs
  | .lst i => Nat.blt i m
  | _ => true
def belows (m : Nat) : List PV → Bool
  | [] => true
  | x :: xs => below m x && belows m xs
end
section
variable {K : PySem.W.Frag} {ga : Nat → Addr} {H H' : Hp} {ι ι' : Nat → Addr} {n n' m : Nat}
theorem belows_mem : ∀ {xs : List PV}, belows m xs = true → ∀ x, x ∈ xs → below m x = true
  | [], _, x, hx => by cases hx
  | y :: ys, h, x, hx => by
    simp only [belows, Bool.and_eq_true] at h
    rcases List.mem_cons.mp hx with e | e
    · rw [e]; exact h.1
    · exact belows_mem h.2 x e
theorem mem_belows : ∀ {xs : List PV}, (∀ x, x ∈ xs → below m x = true) → belows m xs = true
  | [], _ => by simp [belows]
  | y :: ys, h => by
    simp only [belows, Bool.and_eq_true]
    exact ⟨h y List.mem_cons_self, mem_belows fun x hx => h x (List.mem_cons_of_mem _ hx)⟩
/-- a value below m, read over other indices -/
theorem Rep.low (ht : ∀ a xs, H a = some (.tup xs) → H' a = some (.tup xs)) (hf : ∀ a o u, H a = some (.frz o u) → H' a = some (.frz o u)) (hi : ∀ i, i < m → ι' i = ι i) (hm : m ≤ n') :
    ∀ (x : PV) (v : V), below m x = true → Rep K ga H ι n x v → Rep K ga H' ι' n' x v := by
  intro x
  refine PV.ind (P := fun x => ∀ v, below m x = true → Rep K ga H ι n x v → Rep K ga H' ι' n' x v) ?_ ?_ ?_ ?_ ?_ ?_ ?_ ?_ x
  · intro v _ h; simpa only [Rep] using h
  · intro b v _ h; simpa only [Rep] using h
  · intro i v _ h; simpa only [Rep] using h
  · intro l v _ h; simpa only [Rep] using h
  · intro xs ih v b h
    simp only [below] at b
    simp only [Rep] at h ⊢
    obtain ⟨a, vs, e1, e2, e3⟩ := h
    refine ⟨a, vs, e1, ?_, e3.imp (R' := fun _ _ => True) fun x hx v => ih x hx v (belows_mem b x hx)⟩
    rcases e2 with (h | ⟨o, h⟩) | h
    · exact .inl (.inl (ht _ _ h))
    · exact .inl (.inr ⟨o, hf _ _ _ h⟩)
    · exact .inr h
  · intro xs ih v b h
    simp only [below] at b
    simp only [Rep] at h ⊢
    obtain ⟨a, vs, e1, e2, e3⟩ := h
    refine ⟨a, vs, e1, ?_, e3.imp (R' := fun _ _ => True) fun x hx v => ih x hx v (belows_mem b x hx)⟩
    rcases e2 with ⟨o, e2⟩ | e2
    · exact .inl ⟨o, hf _ _ _ e2⟩
    · exact .inr e2
  · intro i v b h
    simp only [below] at b
    simp only [Rep] at h ⊢
    obtain ⟨e1, e2⟩ := h
    have b' : i < m := by simpa [Nat.blt_eq] using b
    exact ⟨by rw [e1, hi i b'], Nat.lt_of_lt_of_le b' hm⟩
  · intro i v _ h; simpa only [Rep] using h
theorem Reps.low (ht : ∀ a xs, H a = some (.tup xs) → H' a = some (.tup xs)) (hf : ∀ a o u, H a = some (.frz o u) → H' a = some (.frz o u)) (hi : ∀ i, i < m → ι' i = ι i) (hm : m ≤ n')
    {xs : List PV} {vs : List V} (b : belows m xs = true) (h : Reps K ga H ι n xs vs) : Reps K ga H' ι' n' xs vs :=
  h.imp (R' := fun _ _ => True) fun x hx v => Rep.low ht hf hi hm x v (belows_mem b x hx)
theorem Rep.isBelow : ∀ (x : PV) (v : V), Rep K ga H ι n x v → below n x = true := by
  intro x
  refine PV.ind (P := fun x => ∀ v, Rep K ga H ι n x v → below n x = true) ?_ ?_ ?_ ?_ ?_ ?_ ?_ ?_ x
  · intro v _; simp [below]
  · intro b v _; simp [below]
  · intro i v _; simp [below]
  · intro l v _; simp [below]
  · intro xs ih v h
    simp only [Rep] at h
    obtain ⟨a, vs, e1, e2, e3⟩ := h
    simp only [below]
    refine mem_belows fun x hx => ?_
    obtain ⟨i, hi⟩ := List.getElem?_of_mem hx
    obtain ⟨u, _, r⟩ := e3.get hi
    exact ih x hx u r
  · intro xs ih v h
    simp only [Rep] at h
    obtain ⟨a, vs, e1, e2, e3⟩ := h
    simp only [below]
    refine mem_belows fun x hx => ?_
    obtain ⟨i, hi⟩ := List.getElem?_of_mem hx
    obtain ⟨u, _, r⟩ := e3.get hi
    exact ih x hx u r
  · intro i v h
    simp only [Rep] at h
    simp only [below]
    simpa [Nat.blt_eq] using h.2
  · intro i v _; simp [below]
end

/-! ### the store -/
structure SRel (G : Gc) (H : Hp) (ι : Nat → Addr) (S : Sto) : Prop where
  inj : ∀ i j, i < S.length → j < S.length → ι i = ι j → i = j
  cell : ∀ i xs, S[i]? = some (.lst xs) → ∃ vs, H (ι i) = some (.lst vs) ∧ Reps G.K G.ga H ι i xs vs
  tabs : LamX.Tabs G.T H
section
variable {G : Gc} {H H' : Hp} {ι ι' : Nat → Addr} {S S' : Sto}
theorem Cell.eta (c : Cell) : ∃ xs, c = .lst xs := by cases c; exact ⟨_, rfl⟩
theorem SRel.at (h : SRel G H ι S) {i : Nat} (hi : i < S.length) : ∃ xs vs, S[i]? = some (.lst xs) ∧ H (ι i) = some (.lst vs) ∧ Reps G.K G.ga H ι i xs vs := by
  obtain ⟨xs, e⟩ := Cell.eta S[i]
  have e1 : S[i]? = some (.lst xs) := by rw [List.getElem?_eq_getElem hi, e]
  obtain ⟨vs, e2, e3⟩ := h.cell i xs e1
  exact ⟨xs, vs, e1, e2, e3⟩
theorem cellL_some {i : Nat} {xs : List PV} (h : cellL S i = some xs) : S[i]? = some (.lst xs) := by
  unfold cellL at h
  split at h
  · rename_i ys e
    cases h
    exact e
  · cases h
theorem SRel.get (h : SRel G H ι S) {i : Nat} {xs : List PV} (e : cellL S i = some xs) : i < S.length ∧ ∃ vs, H (ι i) = some (.lst vs) ∧ Reps G.K G.ga H ι S.length xs vs := by
  have e1 := cellL_some e
  have hi : i < S.length := (List.getElem?_eq_some_iff.mp e1).1
  obtain ⟨vs, e2, e3⟩ := h.cell i xs e1
  exact ⟨hi, vs, e2, e3.ext0 ⟨fun _ _ h => h, fun _ _ _ h => h, fun _ _ h => h, fun _ _ => rfl, Nat.le_of_lt hi⟩⟩
theorem tbl_ne {p : Addr} {o : HO} (t : LamX.Tabs G.T H) (hn : ∀ ps, H p ≠ some (.tbl ps)) (he : ∀ φ, H p ≠ some (.ext φ)) : LamX.Tabs G.T (upd H p o) := fun q hq => by
  obtain ⟨ps, a1, a2, a3⟩ := t q hq
  refine ⟨ps, ?_, a2, fun pos cv hc => ?_⟩
  · rw [upd_ne (fun e => hn ps (by rw [← e]; exact a1))]; exact a1
  · obtain ⟨c, b1, b2⟩ := a3 pos cv hc
    refine ⟨c, b1, ?_⟩
    rw [upd_ne (fun e => by
      rw [e] at b2
      exact he _ b2)]
    exact b2
def ixUp (ι : Nat → Addr) (n : Nat) (p : Addr) : Nat → Addr := fun i => if i = n then p else ι i
theorem ixUp_lt {n i : Nat} {p : Addr} (h : i < n) : ixUp ι n p i = ι i := if_neg (Nat.ne_of_lt h)
theorem ixUp_eq {n : Nat} {p : Addr} : ixUp ι n p n = p := if_pos rfl
theorem ext_new {p : Addr} {o : HO} {n : Nat} (hp : H p = none) (hi : ∀ i, i < n → ι' i = ι i) (hn : n ≤ n) : Ext H ι n (upd H p o) ι' n :=
  ⟨⟨fun a xs h => by rw [upd_ne (ne_of_none h hp)]; exact h, fun a o u h => by rw [upd_ne (ne_of_none h hp)]; exact h, fun a φ h => by rw [upd_ne (ne_of_none h hp)]; exact h, hi, hn⟩, fun a vs h k => ⟨by rw [upd_ne (ne_of_none h hp)]; exact h, fun i hi' => by rw [hi i hi']; exact k i hi'⟩⟩
/-- a thing that is no list of ours is laid -/
theorem SRel.laid (h : SRel G H ι S) {p : Addr} {o : HO} (hp : H p = none) : SRel G (upd H p o) ι S :=
  ⟨h.inj, fun i xs e => by
    obtain ⟨vs, e1, e2⟩ := h.cell i xs e
    exact ⟨vs, by rw [upd_ne (ne_of_none e1 hp)]; exact e1, e2.ext (ext_new hp (fun _ _ => rfl) (Nat.le_refl _))⟩,
   tbl_ne h.tabs (fun ps e => by rw [hp] at e; cases e) fun φ e => by rw [hp] at e; cases e⟩
/-- a new list -/
theorem SRel.alloc (h : SRel G H ι S) {p : Addr} {xs : List PV} {vs : List V} (hp : H p = none) (r : Reps G.K G.ga H ι S.length xs vs) : SRel G (upd H p (.lst vs)) (ixUp ι S.length p) (S ++ [.lst xs]) := by
  have ex : ∀ k, k ≤ S.length → Ext H ι k (upd H p (.lst vs)) (ixUp ι S.length p) k := fun k hk => ext_new hp (fun i hi => ixUp_lt (Nat.lt_of_lt_of_le hi hk)) (Nat.le_refl _)
  refine ⟨fun i j hi hj e => ?_, fun i ys e => ?_, tbl_ne h.tabs (fun ps e => by rw [hp] at e; cases e) fun φ e => by rw [hp] at e; cases e⟩
  · rw [List.length_append, List.length_singleton] at hi hj
    by_cases h1 : i = S.length
    · by_cases h2 : j = S.length
      · omega
      · have hj' : j < S.length := by omega
        obtain ⟨_, _, _, q, _⟩ := h.at hj'
        rw [h1, ixUp_eq, ixUp_lt hj'] at e
        rw [← e, hp] at q; cases q
    · have hi' : i < S.length := by omega
      by_cases h2 : j = S.length
      · obtain ⟨_, _, _, q, _⟩ := h.at hi'
        rw [h2, ixUp_eq, ixUp_lt hi'] at e
        rw [e, hp] at q; cases q
      · have hj' : j < S.length := by omega
        rw [ixUp_lt hi', ixUp_lt hj'] at e
        exact h.inj i j hi' hj' e
  · by_cases h1 : i = S.length
    · subst h1
      rw [List.getElem?_append_right (Nat.le_refl _), Nat.sub_self] at e
      have e' : xs = ys := by simpa using e
      subst e'
      exact ⟨vs, by rw [ixUp_eq, upd_same], r.ext (ex _ (Nat.le_refl _))⟩
    · have hi : i < S.length := by
        have := (List.getElem?_eq_some_iff.mp e).1
        rw [List.length_append, List.length_singleton] at this
        omega
      rw [List.getElem?_append_left hi] at e
      obtain ⟨ws, e1, e2⟩ := h.cell i ys e
      refine ⟨ws, ?_, e2.ext (ex i (Nat.le_of_lt hi))⟩
      rw [ixUp_lt hi, upd_ne (ne_of_none e1 hp)]
      exact e1
theorem ext_alloc {p : Addr} {vs : List V} {n : Nat} (hp : H p = none) : Ext H ι n (upd H p (.lst vs)) (ixUp ι n p) (n + 1) :=
  ⟨⟨fun a xs h => by rw [upd_ne (ne_of_none h hp)]; exact h, fun a o u h => by rw [upd_ne (ne_of_none h hp)]; exact h, fun a φ h => by rw [upd_ne (ne_of_none h hp)]; exact h, fun i hi => ixUp_lt hi, Nat.le_succ _⟩, fun a vs h k => ⟨by rw [upd_ne (ne_of_none h hp)]; exact h, fun i hi' => by
    by_cases e : i = n
    · rw [e, ixUp_eq]; exact fun z => ne_of_none h hp z.symm
    · rw [ixUp_lt (by omega)]; exact k i (by omega)⟩⟩
/-- a list of ours is changed -/
theorem ext0_set {i : Nat} {vs ws : List V} {n : Nat} (hv : H (ι i) = some (.lst vs)) : Ex0 H ι n (upd H (ι i) (.lst ws)) ι n :=
  ⟨fun a xs h => by rw [upd_ne (ne_of h hv (by intro z; cases z))]; exact h, fun a o u h => by rw [upd_ne (ne_of h hv (by intro z; cases z))]; exact h, fun a φ h => by rw [upd_ne (ne_of h hv (by intro z; cases z))]; exact h, fun _ _ => rfl, Nat.le_refl _⟩
theorem ext_set {i : Nat} {vs ws : List V} {n : Nat} (hv : H (ι i) = some (.lst vs)) (hi : i < n) : Ext H ι n (upd H (ι i) (.lst ws)) ι n :=
  ⟨ext0_set hv, fun a us h k => ⟨by rw [upd_ne (fun z => k i hi z.symm)]; exact h, k⟩⟩
theorem SRel.set (h : SRel G H ι S) {i : Nat} (hi : i < S.length) {ys : List PV} {ws : List V} (r : Reps G.K G.ga H ι i ys ws) : SRel G (upd H (ι i) (.lst ws)) ι (S.set i (.lst ys)) := by
  obtain ⟨xs, vs, e1, e2, e3⟩ := h.at hi
  refine ⟨fun a b ha hb e => h.inj a b (by simpa using ha) (by simpa using hb) e, fun j zs e => ?_, tbl_ne h.tabs (fun ps e => by rw [e2] at e; cases e) fun φ e => by rw [e2] at e; cases e⟩
  by_cases hj : i = j
  · subst hj
    rw [List.getElem?_set_self hi] at e
    have e' : ys = zs := by simpa using e
    subst e'
    exact ⟨ws, upd_same, r.ext0 (ext0_set e2)⟩
  · rw [List.getElem?_set_ne hj] at e
    obtain ⟨us, q1, q2⟩ := h.cell j zs e
    refine ⟨us, ?_, q2.ext0 (ext0_set e2)⟩
    have hjl : j < S.length := (List.getElem?_eq_some_iff.mp e).1
    rw [upd_ne (fun z => hj (h.inj j i hjl hi z).symm)]
    exact q1
/-- the cells from m on forgotten -/
theorem SRel.cut (h : SRel G H ι S) (m : Nat) : SRel G H ι (S.take m) := by
  refine ⟨fun i j hi hj e => h.inj i j (by rw [List.length_take] at hi; omega) (by rw [List.length_take] at hj; omega) e, fun i xs e => ?_, h.tabs⟩
  by_cases hm : i < m
  · rw [List.getElem?_take_of_lt hm] at e
    exact h.cell i xs e
  · rw [List.getElem?_eq_none (by rw [List.length_take]; omega)] at e
    cases e
/-- .. but the last, which is moved to m -/
theorem SRel.move (h : SRel G H ι S) {m j : Nat} {xs : List PV} (hm : m ≤ j) (hj : S[j]? = some (.lst xs)) (b : belows m xs = true) :
    SRel G H (ixUp ι m (ι j)) (S.take m ++ [.lst xs]) := by
  have hjl : j < S.length := (List.getElem?_eq_some_iff.mp hj).1
  have hl : (S.take m).length = m := by rw [List.length_take]; omega
  refine ⟨fun a c ha hc e => ?_, fun i ys e => ?_, h.tabs⟩
  · rw [List.length_append, List.length_singleton, hl] at ha hc
    by_cases h1 : a = m
    · by_cases h2 : c = m
      · omega
      · rw [h1, ixUp_eq, ixUp_lt (by omega)] at e
        have := h.inj j c hjl (by omega) e
        omega
    · by_cases h2 : c = m
      · rw [h2, ixUp_eq, ixUp_lt (by omega)] at e
        have := h.inj a j (by omega) hjl e
        omega
      · rw [ixUp_lt (by omega), ixUp_lt (by omega)] at e
        exact h.inj a c (by omega) (by omega) e
  · by_cases h1 : i < m
    · rw [List.getElem?_append_left (by rw [hl]; exact h1), List.getElem?_take_of_lt h1] at e
      obtain ⟨vs, e1, e2⟩ := h.cell i ys e
      exact ⟨vs, by rw [ixUp_lt h1]; exact e1, e2.ext0 ⟨fun _ _ h => h, fun _ _ _ h => h, fun _ _ h => h, fun k hk => ixUp_lt (by omega), Nat.le_refl _⟩⟩
    · have h2 : i = m := by
        have := (List.getElem?_eq_some_iff.mp e).1
        rw [List.length_append, List.length_singleton, hl] at this
        omega
      subst h2
      rw [List.getElem?_append_right (by rw [hl]; exact Nat.le_refl _), hl, Nat.sub_self] at e
      have e' : xs = ys := by simpa using e
      subst e'
      obtain ⟨vs, e1, e2⟩ := h.cell j xs hj
      exact ⟨vs, by rw [ixUp_eq]; exact e1, e2.low (fun _ _ h => h) (fun _ _ _ h => h) (fun k hk => ixUp_lt hk) (Nat.le_refl _) b⟩
end
end Mi

set_option Elab.async false
set_option linter.all false
set_option maxRecDepth 100000
namespace Mi
open PySem PySem.Spec PyProof.Rows L2

/-- what a closure captured: its maker's slots -/
structure ERel0 (G : Gc) (H : Hp) (ι : Nat → Addr) (n : Nat) (σ : L2.St) (env : Env) : Prop where
  len : env.length = σ.length
  at_ : ∀ (i : Nat) (s : Slot), env[i]? = some s → s = .un ∨ ∃ v u, s = .pv v ∧ σ[i]? = some (some u) ∧ Rep G.K G.ga H ι n v u
/-- a closure: its object, its code object, the slots that it captured -/
structure ClI where
  f : Addr
  c : Addr
  q : Str
  σ : L2.St
  env : Env
/-- the tokens of a frame: the caught exception, the closure that came as an argument -/
structure Tks where
  ex : Option (Addr × Nat × Option PV)
  cl : Option ClI
def SlotRel (G : Gc) (tk : Tks) (H : Hp) (ι : Nat → Addr) (n : Nat) : Slot → Option (Option V) → Prop
  | .un, _ => True
  | .pv v, x => ∃ u, x = some (some u) ∧ Rep G.K G.ga H ι n v u
  | .ex c p, x => ∃ a, x = some (some (.ref a)) ∧ tk.ex = some (a, c, p)
  | .cl, x => ∃ k, tk.cl = some k ∧ x = some (some (.ref k.f)) ∧ H k.c = some (LamX.CodeO k.c k.q) ∧ ERel0 G H ι n k.σ k.env
structure ERel (G : Gc) (tk : Tks) (H : Hp) (ι : Nat → Addr) (n : Nat) (σ : L2.St) (env : Env) : Prop where
  len : env.length = σ.length
  at_ : ∀ (i : Nat) (s : Slot), env[i]? = some s → SlotRel G tk H ι n s σ[i]?
theorem ERel0.ext0 {G : Gc} {H H' : Hp} {ι ι' : Nat → Addr} {n n' : Nat} {σ : L2.St} {env : Env} (e : Ex0 H ι n H' ι' n') (h : ERel0 G H ι n σ env) : ERel0 G H' ι' n' σ env :=
  ⟨h.len, fun i s q => (h.at_ i s q).elim .inl fun ⟨v, u, h1, h2, h3⟩ => .inr ⟨v, u, h1, h2, Rep.ext0 e _ _ h3⟩⟩
theorem SlotRel.ext0 {G : Gc} {tk : Tks} {H H' : Hp} {ι ι' : Nat → Addr} {n n' : Nat} (e : Ex0 H ι n H' ι' n') {s : Slot} {x : Option (Option V)} (h : SlotRel G tk H ι n s x) : SlotRel G tk H' ι' n' s x := by
  cases s with
  | un => exact True.intro
  | pv v => obtain ⟨u, h1, h2⟩ := h; exact ⟨u, h1, Rep.ext0 e _ _ h2⟩
  | ex c p => exact h
  | cl => obtain ⟨k, h1, h2, h3, h4⟩ := h; exact ⟨k, h1, h2, e.ext _ _ h3, h4.ext0 e⟩
theorem ERel.ext0 {G : Gc} {tk : Tks} {H H' : Hp} {ι ι' : Nat → Addr} {n n' : Nat} {σ : L2.St} {env : Env} (e : Ex0 H ι n H' ι' n') (h : ERel G tk H ι n σ env) : ERel G tk H' ι' n' σ env :=
  ⟨h.len, fun i s q => (h.at_ i s q).ext0 e⟩
theorem ERel.ext {G : Gc} {tk : Tks} {H H' : Hp} {ι ι' : Nat → Addr} {n n' : Nat} {σ : L2.St} {env : Env} (e : Ext H ι n H' ι' n') (h : ERel G tk H ι n σ env) : ERel G tk H' ι' n' σ env := h.ext0 e.toEx0
theorem ERel.set {G : Gc} {tk : Tks} {H : Hp} {ι : Nat → Addr} {n : Nat} {σ : L2.St} {env : Env} {i : Nat} {v : PV} {u : V} (h : ERel G tk H ι n σ env) (r : Rep G.K G.ga H ι n v u) : ERel G tk H ι n (σ.set i (some u)) (env.set i (.pv v)) := by
  refine ⟨by simpa using h.len, fun j s e => ?_⟩
  by_cases hj : i = j
  · subst hj
    by_cases hi : i < env.length
    · rw [List.getElem?_set_self hi] at e
      cases e
      exact ⟨u, by rw [List.getElem?_set_self (by rw [← h.len]; exact hi)], r⟩
    · rw [List.getElem?_eq_none (by simpa using hi)] at e
      cases e
  · rw [List.getElem?_set_ne hj] at e
    rw [List.getElem?_set_ne hj]
    exact h.at_ j s e

/-- an exception: its class, its own dict -/
def ExR (G : Gc) (c : Nat) (p : Option PV) (cls : Value) (d : Option Addr) : Prop := cls = .ref (G.ga c) ∧ p = none ∧ d = none
/-- what follows behind a result -/
def KE {α β : Type} (G : Gc) (E : XK) (H : Hp) (ι : Nat → Addr) (n : Nat) (r : Res α) (R : Hp → (Nat → Addr) → Nat → α → β → Prop) (Q : β → Hp → Prop) : Prop := match r with
  | .ok v S' => ∀ x H' ι', Ext H ι n H' ι' S'.length → SRel G H' ι' S' → R H' ι' S'.length v x → Q x H'
  | .exc c p S' => ∀ H' ι' cls d, Ext H ι n H' ι' S'.length → SRel G H' ι' S' → ExR G c p cls d → E cls d H'
  | .err => False
abbrev RV (G : Gc) : Hp → (Nat → Addr) → Nat → PV → V → Prop := fun H ι n v x => Rep G.K G.ga H ι n v x
abbrev RVs (G : Gc) : Hp → (Nat → Addr) → Nat → List PV → List V → Prop := fun H ι n v x => Reps G.K G.ga H ι n v x
abbrev RB : Hp → (Nat → Addr) → Nat → Bool → Bool → Prop := fun _ _ _ b c => b = c

section
variable {α β γ : Type} {G : Gc} {E : XK} {H H1 : Hp} {ι ι1 : Nat → Addr} {n n1 : Nat} {R : Hp → (Nat → Addr) → Nat → α → β → Prop} {Q : β → Hp → Prop}
theorem KE.mono {r : Res α} (h : KE G E H ι n r R Q) (e : Ext H ι n H1 ι1 n1) : KE G E H1 ι1 n1 r R Q := by
  cases r with
  | ok v S' => exact fun x H' ι' e' s q => h x H' ι' (e.trans e') s q
  | exc c p S' => exact fun H' ι' cls d e' s q => h H' ι' cls d (e.trans e') s q
  | err => exact h
theorem KE.imp {r : Res α} {Q' : β → Hp → Prop} (h : KE G E H ι n r R Q) (f : ∀ x H, Q x H → Q' x H) : KE G E H ι n r R Q' := by
  cases r with
  | ok v S' => exact fun x H' ι' e' s q => f _ _ (h x H' ι' e' s q)
  | exc c p S' => exact h
  | err => exact h
theorem KE.bind {δ : Type} {r : Res δ} {k : δ → Sto → Res α} {R1 : Hp → (Nat → Addr) → Nat → δ → γ → Prop} (h : KE G E H ι n (bnd r k) R Q) :
    KE G E H ι n r R1 (fun x H1 => ∃ v ι1 S1, Ext H ι n H1 ι1 S1.length ∧ SRel G H1 ι1 S1 ∧ R1 H1 ι1 S1.length v x ∧ KE G E H1 ι1 S1.length (k v S1) R Q) := by
  cases r with
  | ok v S' => exact fun x H' ι' e s q => ⟨v, ι', S', e, s, q, KE.mono h e⟩
  | exc c p S' => exact h
  | err => exact h
end

/-! ### readings -/
def RdE (G : Gc) (tk : Tks) (cl : Cl) (W : WX) (m : ME) : TE := fun σ H Q => ∃ ι env S, ERel G tk H ι S.length σ env ∧ SRel G H ι S ∧ KE G (fun c d H => W c d σ H) H ι S.length (m cl env S) (RV G) Q
def RdA (G : Gc) (tk : Tks) (cl : Cl) (W : WX) (m : MA) : TA := fun σ H Q => ∃ ι env S, ERel G tk H ι S.length σ env ∧ SRel G H ι S ∧ KE G (fun c d H => W c d σ H) H ι S.length (m cl env S) (RVs G) Q
def RdB (G : Gc) (tk : Tks) (cl : Cl) (W : WX) (m : MB) : TT := fun σ H Q => ∃ ι env S, ERel G tk H ι S.length σ env ∧ SRel G H ι S ∧ KE G (fun c d H => W c d σ H) H ι S.length (m cl env S) RB Q

theorem PE.imp {X : Cx} {e : Expr} {t t' : TE} (h : PE X e t) (f : ∀ σ H Q, t' σ H Q → t σ H Q) : PE X e t' := ⟨fun pins s σ H Q I q => h.run pins s σ H Q I (f σ H Q q)⟩
theorem PT.imp {X : Cx} {e : Expr} {t t' : TT} (h : PT X e t) (f : ∀ σ H Q, t' σ H Q → t σ H Q) : PT X e t' := ⟨fun pins s σ H Q I q => h.run pins s σ H Q I (f σ H Q q)⟩
theorem PW.imp {X : Cx} {e : Expr} {t t' : TT} (h : PW X e t) (f : ∀ σ H Q, t' σ H Q → t σ H Q) : PW X e t' := ⟨fun wh pins s σ H Q I q => h.run wh pins s σ H Q I (f σ H Q q)⟩
theorem PA.imp {X : Cx} {e : List Expr} {t t' : TA} (h : PA X e t) (f : ∀ σ H Q, t' σ H Q → t σ H Q) : PA X e t' := ⟨fun p pins s σ H Q I q => h.run p pins s σ H Q I (f σ H Q q)⟩
theorem PS.imp {X : Cx} {e : Stmt} {t t' : TS} (h : PS X e t) (f : ∀ D σ H, t' D σ H → t D σ H) : PS X e t' := ⟨fun pins s σ H D I q => h.run pins s σ H D I (f D σ H q)⟩
theorem PSs.imp {X : Cx} {e : List Stmt} {t t' : TS} (h : PSs X e t) (f : ∀ D σ H, t' D σ H → t D σ H) : PSs X e t' := ⟨fun pins s σ H D I q => h.run pins s σ H D I (f D σ H q)⟩

/-! ### value operations: no exception, one answer -/
abbrev O1 := PV → Sto → Option (PV × Sto)
abbrev O2 := PV → PV → Sto → Option (PV × Sto)
abbrev OL := List PV → Sto → Option (PV × Sto)
@[reducible] def ofO {α : Type} : Option (α × Sto) → Res α
  | some (v, S) => .ok v S
  | none => .err
def KO {α β : Type} (G : Gc) (H : Hp) (ι : Nat → Addr) (n : Nat) (r : Option (α × Sto)) (R : Hp → (Nat → Addr) → Nat → α → β → Prop) (Q : β → Hp → Prop) : Prop := match r with
  | some (v, S') => ∀ x H' ι', Ext H ι n H' ι' S'.length → SRel G H' ι' S' → R H' ι' S'.length v x → Q x H'
  | none => False
theorem KE.o {α β : Type} {G : Gc} {E : XK} {H : Hp} {ι : Nat → Addr} {n : Nat} {r : Option (α × Sto)} {R : Hp → (Nat → Addr) → Nat → α → β → Prop} {Q : β → Hp → Prop} (h : KE G E H ι n (ofO r) R Q) : KO G H ι n r R Q := by
  cases r with
  | none => exact h
  | some q => exact h
/-- the answer is a value of its own, the store as it is -/
theorem KO.here {β : Type} {G : Gc} {H : Hp} {ι : Nat → Addr} {S : Sto} {α : Type} {v : α} {R : Hp → (Nat → Addr) → Nat → α → β → Prop} {Q : β → Hp → Prop} (h : KO G H ι S.length (some (v, S)) R Q) (s : SRel G H ι S) {x : β} (r : R H ι S.length v x) : Q x H := h x H ι .refl s r
/-- a new tuple -/
theorem KO.tup {G : Gc} {H : Hp} {ι : Nat → Addr} {S : Sto} {xs : List PV} {vs : List V} {Q : V → Hp → Prop} (h : KO G H ι S.length (some (.tup xs, S)) (RV G) Q) (s : SRel G H ι S) (r : Reps G.K G.ga H ι S.length xs vs) :
    ∀ p, H p = none → Q (.ref p) (upd H p (.tup vs)) := fun p hp => by
  have e : Ext H ι S.length (upd H p (.tup vs)) ι S.length := ext_new hp (fun _ _ => rfl) (Nat.le_refl _)
  refine h (.ref p) _ ι e (s.laid hp) ?_
  simp only [RV, Rep]
  exact ⟨p, vs, rfl, .inl (.inl upd_same), r.ext e⟩
/-- a new list -/
theorem KO.lst {G : Gc} {H : Hp} {ι : Nat → Addr} {S : Sto} {xs : List PV} {vs : List V} {Q : V → Hp → Prop} (h : KO G H ι S.length (some (.lst S.length, S ++ [.lst xs])) (RV G) Q) (s : SRel G H ι S) (r : Reps G.K G.ga H ι S.length xs vs) :
    ∀ p, H p = none → Q (.ref p) (upd H p (.lst vs)) := fun p hp => by
  have e : Ext H ι S.length (upd H p (.lst vs)) (ixUp ι S.length p) (S ++ [Cell.lst xs]).length := by
    rw [List.length_append, List.length_singleton]
    exact ext_alloc hp
  refine h (.ref p) _ _ e (s.alloc hp r) ?_
  simp only [RV, Rep, ixUp_eq, List.length_append, List.length_singleton]
  exact ⟨trivial, Nat.lt_succ_self _⟩

def rO2 (G : Gc) (g : O2) : R2 := fun x y H Q => ∃ ι S v w, SRel G H ι S ∧ Rep G.K G.ga H ι S.length v x ∧ Rep G.K G.ga H ι S.length w y ∧ KO G H ι S.length (g v w S) (RV G) Q
def rO1 (G : Gc) (g : O1) : V → Hp → VK → Prop := fun x H Q => ∃ ι S v, SRel G H ι S ∧ Rep G.K G.ga H ι S.length v x ∧ KO G H ι S.length (g v S) (RV G) Q
def rOL (G : Gc) (g : OL) : List V → Hp → VK → Prop := fun xs H Q => ∃ ι S vs, SRel G H ι S ∧ Reps G.K G.ga H ι S.length vs xs ∧ KO G H ι S.length (g vs S) (RV G) Q

/-! ### combinators of expressions -/
def mC (v : PV) : ME := fun _ _ S => .ok v S
def mV (i : Nat) : ME := fun _ env S => match env[i]? with
  | some (.pv v) => .ok v S
  | _ => .err
def m2 (g : O2) (a b : ME) : ME := fun cl env S => bnd (a cl env S) fun x S1 => bnd (b cl env S1) fun y S2 => ofO (g x y S2)
def m1 (g : O1) (a : ME) : ME := fun cl env S => bnd (a cl env S) fun x S1 => ofO (g x S1)
def mL (g : OL) (as : MA) : ME := fun cl env S => bnd (as cl env S) fun xs S1 => ofO (g xs S1)
def aN : MA := fun _ _ S => .ok [] S
def aC (a : ME) (r : MA) : MA := fun cl env S => bnd (a cl env S) fun x S1 => bnd (r cl env S1) fun xs S2 => .ok (x :: xs) S2
def mTup (as : MA) : ME := fun cl env S => bnd (as cl env S) fun xs S1 => .ok (.tup xs) S1
def mLst (as : MA) : ME := fun cl env S => bnd (as cl env S) fun xs S1 => .ok (.lst S1.length) (S1 ++ [.lst xs])
def mIf (t : MB) (a b : ME) : ME := fun cl env S => bnd (t cl env S) fun c S1 => match c with
  | true => a cl env S1
  | false => b cl env S1
/-- truth -/
def truP (v : PV) (S : Sto) : Option Bool := match v with
  | .non => some false
  | .bl b => some b
  | .int i => some (!decide (i = 0))
  | .str l => if l.length ≤ 16777216 then some (!l.isEmpty) else none
  | .tup xs => some (!xs.isEmpty)
  | .fl xs => some (!xs.isEmpty)
  | .lst i => (cellL S i).map fun xs => !xs.isEmpty
  | .g _ => none
def tTru (a : ME) : MB := fun cl env S => bnd (a cl env S) fun x S1 => match truP x S1 with
  | some b => .ok b S1
  | none => .err
def tBl (a : ME) : MB := fun cl env S => bnd (a cl env S) fun x S1 => match x with
  | .bl b => .ok b S1
  | _ => .err
def tNo (t : MB) : MB := fun cl env S => bnd (t cl env S) fun b S1 => .ok (!b) S1
def tAn (t u : MB) : MB := fun cl env S => bnd (t cl env S) fun b S1 => match b with
  | true => u cl env S1
  | false => .ok false S1
def tO (t u : MB) : MB := fun cl env S => bnd (t cl env S) fun b S1 => match b with
  | true => .ok true S1
  | false => u cl env S1
def mAn (a b : ME) : ME := fun cl env S => bnd (a cl env S) fun x S1 => match truP x S1 with
  | some true => b cl env S1
  | some false => .ok x S1
  | none => .err
def mO (a b : ME) : ME := fun cl env S => bnd (a cl env S) fun x S1 => match truP x S1 with
  | some false => b cl env S1
  | some true => .ok x S1
  | none => .err
def mNo (a : ME) : ME := fun cl env S => bnd (a cl env S) fun x S1 => match truP x S1 with
  | some b => .ok (.bl (!b)) S1
  | none => .err
/-- a op b op c -/
def mCh (g h : O2) (a b c : ME) : ME := fun cl env S => bnd (a cl env S) fun x S1 => bnd (b cl env S1) fun y S2 => bnd (ofO (g x y S2)) fun z S3 => match z with
  | .bl true => bnd (c cl env S3) fun w S4 => ofO (h y w S4)
  | .bl false => .ok (.bl false) S3
  | _ => .err

section
variable {G : Gc} {tk : Tks} {cl : Cl} {W : WX} {X : Cx}

theorem truP_ok {H : Hp} {ι : Nat → Addr} {S : Sto} {v : PV} {x : V} {b : Bool} (s : SRel G H ι S) (r : Rep G.K G.ga H ι S.length v x) (h : truP v S = some b) : TruV G.K x H b := by
  cases v with
  | non =>
    have e : x = .non := by simpa only [Rep] using r
    subst e
    have e : b = false := by simpa [truP] using h.symm
    subst e
    rfl
  | bl c =>
    have e : x = .bl c := by simpa only [Rep] using r
    subst e
    have e : c = b := by simpa [truP] using h
    subst e
    rfl
  | int i =>
    have e : x = .int i := by simpa only [Rep] using r
    subst e
    have e : (!decide (i = 0)) = b := by simpa [truP] using h
    subst e
    show (!decide (i = 0)) = (i != 0)
    rw [bne, Bool.beq_eq_decide_eq]
  | str l =>
    have e : x = .str ⟨l.toArray⟩ := by simpa only [Rep] using r
    subst e
    simp only [truP] at h
    split at h
    · rename_i hl
      have e : (!l.isEmpty) = b := by simpa using h
      subst e
      refine ⟨?_, ?_⟩
      · show l.toArray.size ≤ sizeLine
        rw [sizeLine_eq]
        simpa using hl
      · show (!l.isEmpty) = (((l.toArray.size : Nat) : Int) != 0)
        cases l with
        | nil => rfl
        | cons a t =>
          simp
          omega
    · cases h
  | tup xs =>
    simp only [Rep] at r
    obtain ⟨a, vs, rfl, hq, hr⟩ := r
    have e : (!xs.isEmpty) = b := by simpa [truP] using h
    subst e
    refine .inr (.inl ⟨vs, hq, ?_⟩)
    have hl := hr.len
    cases xs <;> cases vs <;> first | rfl | (simp at hl)
  | fl xs =>
    simp only [Rep] at r
    obtain ⟨a, vs, rfl, hq, hr⟩ := r
    have e : (!xs.isEmpty) = b := by simpa [truP] using h
    subst e
    refine .inl ⟨vs, ?_, ?_⟩
    · rcases hq with ⟨o, hq⟩ | hq
      · exact .inl (.inr ⟨o, hq⟩)
      · exact .inr hq
    have hl := hr.len
    cases xs <;> cases vs <;> first | rfl | (simp at hl)
  | lst i =>
    simp only [Rep] at r
    obtain ⟨rfl, hi⟩ := r
    simp only [truP] at h
    cases e : cellL S i with
    | none => rw [e] at h; cases h
    | some xs =>
      rw [e] at h
      have e2 : (!xs.isEmpty) = b := by simpa using h
      subst e2
      obtain ⟨_, vs, h1, h2⟩ := s.get e
      refine .inl ⟨vs, SqL.of h1, ?_⟩
      have hl := h2.len
      cases xs <;> cases vs <;> first | rfl | (simp at hl)
  | g i => simp [truP] at h

theorem re_c {e : Expr} {v : PV} {x : V} (h : PE X e (tC x)) (r : ∀ H ι n, Rep G.K G.ga H ι n v x) : PE X e (RdE G tk cl W (mC v)) :=
  PE.imp h fun σ H Q ⟨ι, env, S, _, s, k⟩ => k x H ι .refl s (r _ _ _)
theorem re_v {i : Nat} {x : Str} {pos : Pos} (hN : X.N[i]? = some x) (hv : Vis X.env.scope x) (hd : (x == ("__debug__" : Str)) = false) (hcd : (x == ("__classdict__" : Str)) = false) : PE X (.Name x pos) (RdE G tk cl W (mV i)) :=
  PE.imp (pe_var hN hv hd hcd) fun σ H Q ⟨ι, env, S, r, s, k⟩ => by
    simp only [mV] at k
    split at k
    · rename_i v e
      obtain ⟨u, h1, h2⟩ := r.at_ i _ e
      exact ⟨u, h1, k u H ι .refl s h2⟩
    · exact k.elim
theorem r2_of {g : O2} {ma mb : ME} {σ : L2.St} {H : Hp} {Q : VK} (h : RdE G tk cl W (m2 g ma mb) σ H Q) : tOp (rO2 G g) (RdE G tk cl W ma) (RdE G tk cl W mb) σ H Q := by
  obtain ⟨ι, env, S, r, s, k⟩ := h
  refine ⟨ι, env, S, r, s, (KE.bind k).imp fun x H1 ⟨v, ι1, S1, e1, s1, r1, k1⟩ => ⟨ι1, env, S1, r.ext e1, s1, (KE.bind k1).imp fun y H2 ⟨w, ι2, S2, e2, s2, r2, k2⟩ => ⟨ι2, S2, v, w, s2, Rep.ext e2 _ _ r1, r2, k2.o⟩⟩⟩
theorem re_bin {op : Operator} {g : O2} {a b : Expr} {ma mb : ME} {pos : Pos} (ho : OpR X (binaryOp op) (rO2 G g)) (ha : PE X a (RdE G tk cl W ma)) (hb : PE X b (RdE G tk cl W mb)) : PE X (.BinOp a op b pos) (RdE G tk cl W (m2 g ma mb)) :=
  PE.imp (pe_op ho ha hb) fun _ _ _ h => r2_of h
theorem re_cmp {op : CmpOp} {g : O2} {a b : Expr} {ma mb : ME} {pos : Pos} (ho : OpR X (compareOp op) (rO2 G g)) (ha : PE X a (RdE G tk cl W ma)) (hb : PE X b (RdE G tk cl W mb)) (hm : behindInMarks op b = false) : PE X (.Compare a [op] [b] pos) (RdE G tk cl W (m2 g ma mb)) :=
  PE.imp (pe_cmpR ho ha hb hm) fun _ _ _ h => r2_of h
theorem re_ix {g : O2} {a b : Expr} {ma mb : ME} {pos : Pos} (ho : IxR X (rO2 G g)) (ha : PE X a (RdE G tk cl W ma)) (hb : PE X b (RdE G tk cl W mb)) (hs : PlainIx b) : PE X (.Subscript a b pos) (RdE G tk cl W (m2 g ma mb)) :=
  PE.imp (pe_ix ho ha hb hs) fun _ _ _ h => r2_of h
theorem r1_of {g : O1} {ma : ME} {σ : L2.St} {H : Hp} {Q : VK} (h : RdE G tk cl W (m1 g ma) σ H Q) : tUn (rO1 G g) (RdE G tk cl W ma) σ H Q := by
  obtain ⟨ι, env, S, r, s, k⟩ := h
  exact ⟨ι, env, S, r, s, (KE.bind k).imp fun x H1 ⟨v, ι1, S1, e1, s1, r1, k1⟩ => ⟨ι1, S1, v, s1, r1, k1.o⟩⟩
theorem re_un {op : UnaryOp} {g : O1} {a : Expr} {ma : ME} {pos : Pos} (ho : UnR X (unaryOp op) (rO1 G g)) (ha : PE X a (RdE G tk cl W ma)) : PE X (.UnaryOp op a pos) (RdE G tk cl W (m1 g ma)) :=
  PE.imp (pe_un ho ha) fun _ _ _ h => r1_of h
theorem ra_nil : PA X [] (RdA G tk cl W aN) := PA.imp pa_nil fun σ H Q ⟨ι, env, S, r, s, k⟩ => k [] H ι .refl s .nil
theorem ra_cons {a : Expr} {es : List Expr} {ma : ME} {mr : MA} (ha : PE X a (RdE G tk cl W ma)) (hr : PA X es (RdA G tk cl W mr)) (hs : starEach (a :: es) X.env = (false, eval a X.env) :: starEach es X.env) : PA X (a :: es) (RdA G tk cl W (aC ma mr)) :=
  PA.imp (pa_cons ha hr hs) fun σ H Q ⟨ι, env, S, r, s, k⟩ => ⟨ι, env, S, r, s, (KE.bind k).imp fun x H1 ⟨v, ι1, S1, e1, s1, r1, k1⟩ => ⟨ι1, env, S1, r.ext e1, s1, (KE.bind k1).imp fun xs H2 ⟨vs, ι2, S2, e2, s2, r2, k2⟩ =>
    k2 (x :: xs) H2 ι2 .refl s2 (.cons (Rep.ext e2 _ _ r1) r2)⟩⟩
theorem re_lst {es : List Expr} {pos : Pos} {ma : MA} (h : PA X es (RdA G tk cl W ma)) (hl : ∀ env S xs S', ma cl env S = .ok xs S' → xs.length ≤ sizeLine) : PE X (.List es pos) (RdE G tk cl W (mLst ma)) :=
  PE.imp (pe_lst h) fun σ H Q ⟨ι, env, S, r, s, k⟩ => by
    refine ⟨ι, env, S, r, s, ?_⟩
    have k2 := KE.bind (R1 := RVs G) k
    cases e : ma cl env S with
    | err => rw [e] at k2; exact k2
    | exc c p S' => rw [e] at k2; exact k2
    | ok xs S1 =>
      rw [e] at k2
      intro ys H1 ι1 e1 s1 r1
      obtain ⟨v, ι2, S2, e2, s2, r2, k3⟩ := k2 ys H1 ι1 e1 s1 r1
      have hz := hl _ _ _ _ e
      refine ⟨by rw [r1.len]; exact hz, ?_⟩
      have k4 : KO G H1 ι2 S2.length (some (.lst S2.length, S2 ++ [.lst v])) (RV G) Q := k3
      exact k4.lst s2 r2
theorem re_tup {es : List Expr} {kk : Nat} {pos : Pos} {ma : MA} (h : PA X es (RdA G tk cl W ma)) (hl : ∀ env S xs S', ma cl env S = .ok xs S' → xs.length ≤ sizeLine) : PE X (.Tuple es kk pos) (RdE G tk cl W (mTup ma)) :=
  PE.imp (pe_tup h) fun σ H Q ⟨ι, env, S, r, s, k⟩ => by
    refine ⟨ι, env, S, r, s, ?_⟩
    have k2 := KE.bind (R1 := RVs G) k
    cases e : ma cl env S with
    | err => rw [e] at k2; exact k2
    | exc c p S' => rw [e] at k2; exact k2
    | ok xs S1 =>
      rw [e] at k2
      intro ys H1 ι1 e1 s1 r1
      obtain ⟨v, ι2, S2, e2, s2, r2, k3⟩ := k2 ys H1 ι1 e1 s1 r1
      have hz := hl _ _ _ _ e
      refine ⟨by rw [r1.len]; exact hz, ?_⟩
      have k4 : KO G H1 ι2 S2.length (some (.tup v, S2)) (RV G) Q := k3
      exact k4.tup s2 r2
theorem re_if {c a b : Expr} {pos : Pos} {t : MB} {ma mb : ME} (hc : PT X c (RdB G tk cl W t)) (ha : PE X a (RdE G tk cl W ma)) (hb : PE X b (RdE G tk cl W mb)) : PE X (.IfExp c a b pos) (RdE G tk cl W (mIf t ma mb)) :=
  PE.imp (pe_ifExp hc ha hb) fun σ H Q ⟨ι, env, S, r, s, k⟩ => ⟨ι, env, S, r, s, (KE.bind (R1 := RB) k).imp fun c H1 ⟨d, ι1, S1, e1, s1, ec, k1⟩ => by
    subst ec
    cases d with
    | true => exact ⟨ι1, env, S1, r.ext e1, s1, k1⟩
    | false => exact ⟨ι1, env, S1, r.ext e1, s1, k1⟩⟩

/-! ### tests -/
theorem rt_tru {a : Expr} {ma : ME} (hK : X.K = G.K) (ha : PE X a (RdE G tk cl W ma)) (he : ∀ whole, isTrue a X.env whole = (do let v ← whole; standAt a.pos; holding [v] (truthy v))) : PT X a (RdB G tk cl W (tTru ma)) :=
  PT.imp (pt_truth ha he) fun σ H Q ⟨ι, env, S, r, s, k⟩ => ⟨ι, env, S, r, s, (KE.bind (R1 := RV G) k).imp fun x H1 ⟨v, ι1, S1, e1, s1, r1, k1⟩ => by
    cases e : truP v S1 with
    | none => rw [e] at k1; exact k1.elim
    | some b =>
      rw [e] at k1
      exact ⟨b, by rw [hK]; exact truP_ok s1 r1 e, k1 b H1 ι1 .refl s1 rfl⟩⟩
theorem rt_bl2 {g : O2} {ma mb : ME} {σ : L2.St} {H : Hp} {Q : Bool → Hp → Prop} (h : RdB G tk cl W (tBl (m2 g ma mb)) σ H Q) : tTest (tOp (rO2 G g) (RdE G tk cl W ma) (RdE G tk cl W mb)) σ H Q := by
  obtain ⟨ι, env, S, r, s, k⟩ := h
  refine r2_of ⟨ι, env, S, r, s, (KE.bind (R1 := RV G) k).imp fun x H1 ⟨v, ι1, S1, e1, s1, r1, k1⟩ => ?_⟩
  cases v with
  | bl b =>
    have e : x = .bl b := by simpa only [RV, Rep] using r1
    exact ⟨b, e, k1 b H1 ι1 .refl s1 rfl⟩
  | _ => exact k1.elim
theorem rt_cmp {op : CmpOp} {g : O2} {a b : Expr} {ma mb : ME} {pos : Pos} (ho : OpR X (compareOp op) (rO2 G g)) (ha : PE X a (RdE G tk cl W ma)) (hb : PE X b (RdE G tk cl W mb)) (hm : behindInMarks op b = false) : PT X (.Compare a [op] [b] pos) (RdB G tk cl W (tBl (m2 g ma mb))) :=
  PT.imp (pt_cmpR ho ha hb hm) fun _ _ _ h => rt_bl2 h
theorem rt_not {a : Expr} {t : MB} {pos : Pos} (ha : PT X a (RdB G tk cl W t)) : PT X (.UnaryOp .Not a pos) (RdB G tk cl W (tNo t)) :=
  PT.imp (pt_not ha) fun σ H Q ⟨ι, env, S, r, s, k⟩ => ⟨ι, env, S, r, s, (KE.bind (R1 := RB) k).imp fun x H1 ⟨v, ι1, S1, e1, s1, r1, k1⟩ => by
    subst r1
    exact k1 (!v) H1 ι1 .refl s1 rfl⟩
theorem rw_and1 {a : Expr} {t : MB} {pos : Pos} (ha : PT X a (RdB G tk cl W t)) : PW X (.BoolOp .And [a] pos) (RdB G tk cl W t) := pw_and1 ha
theorem rw_or1 {a : Expr} {t : MB} {pos : Pos} (ha : PT X a (RdB G tk cl W t)) : PW X (.BoolOp .Or [a] pos) (RdB G tk cl W t) := pw_or1 ha
theorem rw_and {a b : Expr} {rest : List Expr} {t u : MB} {pos : Pos} (ha : PT X a (RdB G tk cl W t)) (hb : PW X (.BoolOp .And (b :: rest) pos) (RdB G tk cl W u)) : PW X (.BoolOp .And (a :: b :: rest) pos) (RdB G tk cl W (tAn t u)) :=
  PW.imp (pw_and ha hb) fun σ H Q ⟨ι, env, S, r, s, k⟩ => ⟨ι, env, S, r, s, (KE.bind (R1 := RB) k).imp fun x H1 ⟨v, ι1, S1, e1, s1, r1, k1⟩ => by
    subst r1
    cases v with
    | true => exact ⟨ι1, env, S1, r.ext e1, s1, k1⟩
    | false => exact k1 false H1 ι1 .refl s1 rfl⟩
theorem rw_or {a b : Expr} {rest : List Expr} {t u : MB} {pos : Pos} (ha : PT X a (RdB G tk cl W t)) (hb : PW X (.BoolOp .Or (b :: rest) pos) (RdB G tk cl W u)) : PW X (.BoolOp .Or (a :: b :: rest) pos) (RdB G tk cl W (tO t u)) :=
  PW.imp (pw_or ha hb) fun σ H Q ⟨ι, env, S, r, s, k⟩ => ⟨ι, env, S, r, s, (KE.bind (R1 := RB) k).imp fun x H1 ⟨v, ι1, S1, e1, s1, r1, k1⟩ => by
    subst r1
    cases v with
    | true => exact k1 true H1 ι1 .refl s1 rfl
    | false => exact ⟨ι1, env, S1, r.ext e1, s1, k1⟩⟩
/-- chains -/
theorem rch_of {g h : O2} {ma mb mc : ME} {σ : L2.St} {H : Hp} {Q : VK} (q : RdE G tk cl W (mCh g h ma mb mc) σ H Q) : tChain (rO2 G g) (rO2 G h) (RdE G tk cl W ma) (RdE G tk cl W mb) (RdE G tk cl W mc) σ H Q := by
  obtain ⟨ι, env, S, r, s, k⟩ := q
  refine ⟨ι, env, S, r, s, (KE.bind k).imp fun x H1 ⟨v, ι1, S1, e1, s1, r1, k1⟩ => ⟨ι1, env, S1, r.ext e1, s1, (KE.bind k1).imp fun y H2 ⟨w, ι2, S2, e2, s2, r2, k2⟩ => ⟨ι2, S2, v, w, s2, Rep.ext e2 _ _ r1, r2, ?_⟩⟩⟩
  have k3 := KE.bind (R1 := RV G) k2
  refine (show KO G H2 ι2 S2.length (g v w S2) (RV G) _ from ?_)
  cases e : g v w S2 with
  | none => rw [e] at k3; exact k3
  | some q =>
    obtain ⟨z, S3⟩ := q
    rw [e] at k3
    intro zz H3 ι3 e3 s3 r3
    obtain ⟨z', ι4, S4, e4, s4, r4, k4⟩ := k3 zz H3 ι3 e3 s3 r3
    cases z' with
    | bl b =>
      have ez : zz = .bl b := by simpa only [RV, Rep] using r4
      refine ⟨b, ez, ?_⟩
      cases b with
      | true =>
        rw [if_pos rfl]
        exact ⟨ι4, env, S4, ((r.ext e1).ext e2).ext e4, s4, (KE.bind k4).imp fun u H5 ⟨t, ι5, S5, e5, s5, r5, k5⟩ => ⟨ι5, S5, w, t, s5, Rep.ext (e4.trans e5) _ _ r2, r5, k5.o⟩⟩
      | false =>
        rw [if_neg Bool.false_ne_true]
        exact k4 (.bl false) H3 ι4 .refl s4 (by simp only [RV, Rep])
    | _ => exact k4.elim
theorem re_ch {op op' : CmpOp} {g h : O2} {a b c : Expr} {ma mb mc : ME} {pos : Pos} (ho : OpR X (compareOp op) (rO2 G g)) (ho' : OpR X (compareOp op') (rO2 G h)) (ha : PE X a (RdE G tk cl W ma)) (hb : PE X b (RdE G tk cl W mb)) (hc : PE X c (RdE G tk cl W mc))
    (hm : lastMarks [op, op'] [b, c] = false) : PE X (.Compare a [op, op'] [b, c] pos) (RdE G tk cl W (mCh g h ma mb mc)) := PE.imp (pe_chain ho ho' ha hb hc hm) fun _ _ _ h => rch_of h
theorem rt_ch {op op' : CmpOp} {g h : O2} {a b c : Expr} {ma mb mc : ME} {pos : Pos} (ho : OpR X (compareOp op) (rO2 G g)) (ho' : OpR X (compareOp op') (rO2 G h)) (ha : PE X a (RdE G tk cl W ma)) (hb : PE X b (RdE G tk cl W mb)) (hc : PE X c (RdE G tk cl W mc))
    (hm : lastMarks [op, op'] [b, c] = false) : PT X (.Compare a [op, op'] [b, c] pos) (RdB G tk cl W (tBl (mCh g h ma mb mc))) :=
  PT.imp (pt_chain ho ho' ha hb hc hm) fun σ H Q ⟨ι, env, S, r, s, k⟩ => rch_of ⟨ι, env, S, r, s, (KE.bind (R1 := RV G) k).imp fun x H1 ⟨v, ι1, S1, e1, s1, r1, k1⟩ => by
    cases v with
    | bl b =>
      have e : x = .bl b := by simpa only [RV, Rep] using r1
      exact ⟨b, e, k1 b H1 ι1 .refl s1 rfl⟩
    | _ => exact k1.elim⟩
end
end Mi

set_option Elab.async false
set_option linter.all false
set_option maxRecDepth 100000
namespace Mi
open PySem PySem.Spec PyProof.Rows L2

section
variable {X : Cx} {G : Gc}
theorem OpR.imp {f : Value → Value → Sem Value} {r r' : R2} (h : OpR X f r) (g : ∀ x y H Q, r' x y H Q → r x y H Q) : OpR X f r' := fun pins s σ H x y v u Q I rx ry q => h pins s σ H x y v u Q I rx ry (g x y H Q q)
theorem IxR.imp {r r' : R2} (h : IxR X r) (g : ∀ x y H Q, r' x y H Q → r x y H Q) : IxR X r' := fun va sl pins s σ H x y v u Q I rx ry q hs => h va sl pins s σ H x y v u Q I rx ry (g x y H Q q) hs
theorem SlR.imp {r r' : V → Option Int → Option Int → Hp → VK → Prop} (h : SlR X r) (g : ∀ x lo hi H Q, r' x lo hi H Q → r x lo hi H Q) : SlR X r' := fun pins s σ H x v vl vu lo hi sl Q I rx hs pl pu q => h pins s σ H x v vl vu lo hi sl Q I rx hs pl pu (g x lo hi H Q q)
theorem MtR.imp {id : String} {r r' : V → List V → Hp → VK → Prop} (h : MtR X id r) (g : ∀ x xs H Q, r' x xs H Q → r x xs H Q) : MtR X id r' := fun pins s σ H x xs v us Q I rx rs q => h pins s σ H x xs v us Q I rx rs (g x xs H Q q)
theorem UnR.imp {f : Value → Sem Value} {r r' : V → Hp → VK → Prop} (h : UnR X f r) (g : ∀ x H Q, r' x H Q → r x H Q) : UnR X f r' := fun pins s σ H x v Q I rx q => h pins s σ H x v Q I rx (g x H Q q)
theorem CallR.imp {f : Value} {r r' : List V → Hp → VK → Prop} (h : CallR X f r) (g : ∀ x H Q, r' x H Q → r x H Q) : CallR X f r' := fun pins s σ H x v Q I rx q => h pins s σ H x v Q I rx (g x H Q q)
end

/-! ### a tuple times an int that leaves it, or nothing of it -/
section
variable {X : Cx}
theorem tmul_same (l : Addr) (items : Array Value) (n : Nat) (dd : Option Addr) (sl : Array (Option Value)) (x : Int) (u : Tok) (c0 : (decide (x < -(2 ^ 63)) || decide (x ≥ 2 ^ 63)) = false) (c1 : (items.isEmpty || x == 1) = true) :
    Meets (Builtin.«tuple.__mul__» ⟨[.ref l, .int x u], []⟩) (fun _ R s => s.heap.get? l = some { cls := .type "tuple", dict := dd, data := .seq items n, slots := sl } ∧ R (.ok (.ret (Value.ref l))) s) :=
  .of_wp fun prog w A R s h => by
    obtain ⟨hp, g, d, tk, os⟩ := s
    obtain ⟨hl, h⟩ := h
    have f1 := AutoSeq1.idx_int
    wp_walk using wpAny_loadPart' hl
    repeat (first
      | (refine wpAny_ite_false (decide_eq_false (by rw [c0]; exact Bool.false_ne_true)) ?_; wp_walk using wpAny_loadPart' hl)
      | (refine wpAny_ite_true (decide_eq_true (by rw [c1])) ?_; wp_walk using wpAny_loadPart' hl))
    exact ⟨_, rfl, h⟩
theorem tmul_none (l : Addr) (items : Array Value) (n : Nat) (dd : Option Addr) (sl : Array (Option Value)) (x : Int) (u : Tok) (c0 : (decide (x < -(2 ^ 63)) || decide (x ≥ 2 ^ 63)) = false) (c1 : (items.isEmpty || x == 1) = false) (c2 : (decide (x ≤ 0) || items.isEmpty) = true) :
    Meets (Builtin.«tuple.__mul__» ⟨[.ref l, .int x u], []⟩) (fun _ R s => s.heap.get? l = some { cls := .type "tuple", dict := dd, data := .seq items n, slots := sl } ∧
      R (.ok (.ret (Value.ref s.heap.objs.size))) { s with heap := s.heap.push { cls := Value.type "tuple", data := Data.seq #[] } }) :=
  .of_wp fun prog w A R s h => by
    obtain ⟨hp, g, d, tk, os⟩ := s
    obtain ⟨hl, h⟩ := h
    have f1 := AutoSeq1.idx_int
    wp_walk using wpAny_loadPart' hl
    repeat (first
      | (refine wpAny_ite_false (decide_eq_false (by rw [c0]; exact Bool.false_ne_true)) ?_; wp_walk using wpAny_loadPart' hl)
      | (refine wpAny_ite_false (decide_eq_false (by rw [c1]; exact Bool.false_ne_true)) ?_; wp_walk using wpAny_loadPart' hl)
      | (refine wpAny_ite_true (decide_eq_true (by rw [c2])) ?_; wp_walk using wpAny_loadPart' hl))
    exact ⟨_, rfl, h⟩
end

/-! ### the operations -/
def repP (xs : List PV) (k : Int) : List PV := (List.replicate k.toNat xs).flatten
def opAdd : O2 := fun a b S => match a, b with
  | .int i, .int j => some (.int (i + j), S)
  | .tup xs, .tup ys => if xs.length + ys.length ≤ 16777216 then some (.tup (xs ++ ys), S) else none
  | .str x, .str y => if x.length + y.length ≤ 16777216 then some (.str (x ++ y), S) else none
  | .lst i, .lst j => match cellL S i, cellL S j with
    | some xs, some ys => if xs.length + ys.length ≤ 16777216 then some (.lst S.length, S ++ [.lst (xs ++ ys)]) else none
    | _, _ => none
  | _, _ => none
def opSub : O2 := fun a b S => match a, b with
  | .int i, .int j => some (.int (i - j), S)
  | _, _ => none
def opMul : O2 := fun a b S => match a, b with
  | .int i, .int j => if i.natAbs.log2 + j.natAbs.log2 < 1000000 then some (.int (i * j), S) else if -18446744073709551616 < j ∧ j < 18446744073709551616 then some (.int (i * j), S) else none
  | .tup xs, .int k => if k ≤ 1000 ∧ -1000 ≤ k ∧ xs.length ≤ 1000 then some (.tup (repP xs k), S) else none
  | .lst i, .int k => match cellL S i with
    | some xs => if k ≤ 1000000 ∧ -1000000 ≤ k ∧ xs.length * k.toNat ≤ 16777216 then some (.lst S.length, S ++ [.lst (repP xs k)]) else none
    | none => none
  | _, _ => none
def opDiv : O2 := fun a b S => match a, b with
  | .int i, .int j => if j ≠ 0 ∧ j.natAbs.log2 < 9000 then some (.int (i.fdiv j), S) else none
  | _, _ => none
def opMod : O2 := fun a b S => match a, b with
  | .int i, .int j => if j ≠ 0 then some (.int (i.fmod j), S) else none
  | _, _ => none
def opPow : O2 := fun a b S => match a, b with
  | .int i, .int j => if 0 ≤ j ∧ j ≤ 1000000 ∧ i.natAbs < 2 ^ 64 then some (.int (i ^ j.toNat), S) else none
  | _, _ => none
def opNeg : O1 := fun a S => match a with
  | .int i => some (.int (-i), S)
  | _ => none
def cEq : O2 := fun a b S => if okD S 64 a && okD S 64 b then some (.bl (eqD S 64 a b), S) else none
def cNe : O2 := fun a b S => if okD S 64 a && okD S 64 b then some (.bl (!eqD S 64 a b), S) else none
def cInt (p : Int → Int → Bool) : O2 := fun a b S => match a, b with
  | .int i, .int j => some (.bl (p i j), S)
  | _, _ => none
def cIs : O2 := fun a b S => match b with
  | .non => match a with
    | .non => some (.bl true, S)
    | .g _ => none
    | _ => some (.bl false, S)
  | .bl c => match a with
    | .bl d => some (.bl (decide (d = c)), S)
    | _ => none
  | _ => none
def cIsN : O2 := fun a b S => match b with
  | .non => match a with
    | .non => some (.bl false, S)
    | .g _ => none
    | _ => some (.bl true, S)
  | .bl c => match a with
    | .bl d => some (.bl (!decide (d = c)), S)
    | _ => none
  | _ => none
def cIn : O2 := fun a b S => match seqD S b with
  | some (_, ys) => if okD S 62 a && ys.all (okD S 62) then some (.bl (ys.any fun y => eqD S 62 y a), S) else none
  | none => none
def cNi : O2 := fun a b S => match seqD S b with
  | some (_, ys) => if okD S 62 a && ys.all (okD S 62) then some (.bl (!ys.any fun y => eqD S 62 y a), S) else none
  | none => none
def oIx : O2 := fun a b S => match b with
  | .int i => match a with
    | .str l => if l.length ≤ 16777216 then (match L2.atI l i with
      | some c => some (.str [c], S)
      | none => none) else none
    | a => match seqD S a with
      | some (_, xs) => match L2.atI xs i with
        | some v => some (v, S)
        | none => none
      | none => none
  | _ => none
def cutP (xs : List PV) (lo hi : Option Int) : List PV := (xs.drop (HT.sIx xs.length 0 lo)).take (HT.sIx xs.length xs.length hi - HT.sIx xs.length 0 lo)
def oSl : PV → Option Int → Option Int → Sto → Option (PV × Sto) := fun a lo hi S => match a with
  | .tup xs => some (.tup (cutP xs lo hi), S)
  | .lst i => match cellL S i with
    | some xs => some (.lst S.length, S ++ [.lst (cutP xs lo hi)])
    | none => none
  | .fl xs => some (.lst S.length, S ++ [.lst (cutP xs lo hi)])
  | _ => none

section
variable {K : PySem.W.Frag} {ga : Nat → Addr} {H : Hp} {ι : Nat → Addr} {n : Nat}
theorem rep_non {x : V} : Rep K ga H ι n .non x ↔ x = .non := by simp only [Rep]
theorem rep_bl {b : Bool} {x : V} : Rep K ga H ι n (.bl b) x ↔ x = .bl b := by simp only [Rep]
theorem rep_int {i : Int} {x : V} : Rep K ga H ι n (.int i) x ↔ x = .int i := by simp only [Rep]
theorem rep_str {l : List Nat} {x : V} : Rep K ga H ι n (.str l) x ↔ x = .str ⟨l.toArray⟩ := by simp only [Rep]
theorem rep_tup {xs : List PV} {x : V} : Rep K ga H ι n (.tup xs) x ↔ ∃ a vs, x = .ref a ∧ SqT K H a vs ∧ Reps K ga H ι n xs vs := by simp only [Rep]
theorem rep_lst {i : Nat} {x : V} : Rep K ga H ι n (.lst i) x ↔ x = .ref (ι i) ∧ i < n := by simp only [Rep]
theorem rep_g {i : Nat} {x : V} : Rep K ga H ι n (.g i) x ↔ x = .ref (ga i) := by simp only [Rep]
theorem rep_fl {xs : List PV} {x : V} (h : Rep K ga H ι n (.fl xs) x) : ∃ a vs, x = .ref a ∧ SqL K H a vs ∧ Reps K ga H ι n xs vs := by
  simp only [Rep] at h
  obtain ⟨a, vs, e, h1, h2⟩ := h
  refine ⟨a, vs, e, ?_, h2⟩
  rcases h1 with ⟨o, h1⟩ | h1
  · exact .inl (.inr ⟨o, h1⟩)
  · exact .inr h1
end
/-- a sequence's items: a tuple's, a list's -/
theorem seqD_ok {G : Gc} {H : Hp} {ι : Nat → Addr} {S : Sto} {v : PV} {x : V} {t : Bool} {xs : List PV} (s : SRel G H ι S) (r : Rep G.K G.ga H ι S.length v x) (h : seqD S v = some (t, xs)) :
    ∃ a vs, x = .ref a ∧ (if t = true then SqT G.K H a vs else SqL G.K H a vs) ∧ Reps G.K G.ga H ι S.length xs vs := by
  cases v with
  | tup ys =>
    have e : (true, ys) = (t, xs) := by simpa [seqD] using h
    cases e
    obtain ⟨a, vs, h1, h2, h3⟩ := rep_tup.mp r
    exact ⟨a, vs, h1, h2, h3⟩
  | fl ys =>
    have e : (false, ys) = (t, xs) := by simpa [seqD] using h
    cases e
    obtain ⟨a, vs, h1, h2, h3⟩ := rep_fl r
    exact ⟨a, vs, h1, h2, h3⟩
  | lst i =>
    simp only [seqD] at h
    cases e : cellL S i with
    | none => rw [e] at h; cases h
    | some ys =>
      rw [e] at h
      have e2 : (false, ys) = (t, xs) := by simpa using h
      cases e2
      obtain ⟨h1, _⟩ := rep_lst.mp r
      obtain ⟨_, vs, h2, h3⟩ := s.get e
      exact ⟨ι i, vs, h1, SqL.of h2, h3⟩
  | _ => cases h

section
variable {X : Cx} {G : Gc}
theorem ok_add (hK : X.K = G.K) : OpR X (binaryOp .Add) (rO2 G opAdd) := by
  refine OpR.imp (((op_add (X := X)).or op_catA).or (op_add_str.or op_cat)) fun x y H Q ⟨ι, S, v, w, s, rv, rw', k⟩ => ?_
  unfold opAdd at k
  split at k
  · obtain rfl := rep_int.mp rv
    obtain rfl := rep_int.mp rw'
    exact .inl (.inl ⟨_, _, rfl, rfl, KO.here (R := RV G) k s (rep_int.mpr rfl)⟩)
  · rename_i xs ys
    split at k
    · rename_i hz
      obtain ⟨a, vs, rfl, h1, h2⟩ := rep_tup.mp rv
      obtain ⟨b, ws, rfl, h3, h4⟩ := rep_tup.mp rw'
      refine .inl (.inr ⟨a, b, vs, ws, rfl, rfl, by rw [hK]; exact h1, by rw [hK]; exact h3, by rw [h2.len, h4.len, sizeLine_eq]; exact hz, fun e => ?_, fun _ e => ?_, fun _ _ => KO.tup k s (h2.app h4)⟩)
      · subst e
        have e2 : xs = [] := List.eq_nil_of_length_eq_zero h2.len.symm
        subst e2
        exact KO.here (R := RV G) k s (by rw [List.nil_append]; exact rw')
      · subst e
        have e2 : ys = [] := List.eq_nil_of_length_eq_zero h4.len.symm
        subst e2
        exact KO.here (R := RV G) k s (by rw [List.append_nil]; exact rv)
    · exact k.elim
  · rename_i p q
    split at k
    · rename_i hz
      obtain rfl := rep_str.mp rv
      obtain rfl := rep_str.mp rw'
      refine .inr (.inl ⟨_, _, rfl, rfl, ?_, KO.here (R := RV G) k s (rep_str.mpr ?_)⟩)
      · show p.toArray.size + q.toArray.size ≤ sizeLine
        rw [sizeLine_eq]
        simpa using hz
      · show V.str ⟨p.toArray ++ q.toArray⟩ = _
        simp
    · exact k.elim
  · rename_i i j
    split at k
    · rename_i xs ys e1 e2
      split at k
      · rename_i hz
        obtain ⟨rfl, _⟩ := rep_lst.mp rv
        obtain ⟨rfl, _⟩ := rep_lst.mp rw'
        obtain ⟨_, vs, h1, h2⟩ := s.get e1
        obtain ⟨_, ws, h3, h4⟩ := s.get e2
        exact .inr (.inr ⟨_, _, vs, ws, rfl, rfl, h1, h3, by rw [h2.len, h4.len, sizeLine_eq]; exact hz, KO.lst k s (h2.app h4)⟩)
      · exact k.elim
    · exact k.elim
  · exact k.elim
theorem ok_sub : OpR X (binaryOp .Sub) (rO2 G opSub) := by
  refine OpR.imp (op_sub (X := X)) fun x y H Q ⟨ι, S, v, w, s, rv, rw', k⟩ => ?_
  unfold opSub at k
  split at k
  · obtain rfl := rep_int.mp rv
    obtain rfl := rep_int.mp rw'
    exact ⟨_, _, rfl, rfl, KO.here (R := RV G) k s (rep_int.mpr rfl)⟩
  · exact k.elim
/-- a tuple times an int -/
def rRepA (K : PySem.W.Frag) : R2 := fun x y H Q => ∃ l k xs, x = .ref l ∧ y = .int k ∧ SqT K H l xs ∧ k ≤ 1000 ∧ -1000 ≤ k ∧ xs.length ≤ 1000 ∧ (xs = [] ∨ k = 1 → Q (.ref l) H) ∧ (¬ (xs = [] ∨ k = 1) → ∀ p, H p = none → Q (.ref p) (upd H p (.tup (List.replicate k.toNat xs).flatten)))
theorem op_repA : OpR X (binaryOp .Mult) (rRepA X.K) := by
  intro pins s σ H x y v u Q I rx ry h
  obtain ⟨l, k, xs, rfl, rfl, hT, h1, h1', hz, q1, q2⟩ := h
  by_cases big : xs ≠ [] ∧ 2 ≤ k
  · exact op_repT pins s σ H _ _ v u Q I rx ry ⟨l, k, xs, rfl, rfl, hT, big.1, big.2, h1, hz, q2 (by
      rintro (e | e)
      · exact big.1 e
      · omega)⟩
  · cases rx
    obtain ⟨t, rfl⟩ := ry
    obtain ⟨its, r, ⟨⟨cls, dd, data, sl⟩, ho, hc, n, hd⟩, hs⟩ := I.tuple hT
    simp only at hc hd
    subst hc hd
    have c0 : (decide (k < -(2 ^ 63)) || decide (k ≥ 2 ^ 63)) = false := by
      rw [decide_eq_false (by omega), decide_eq_false (by omega)] <;> rfl
    have emp : its.toArray.isEmpty = true ↔ xs = [] := by
      have hl := r.length
      cases its with
      | nil => simp at hl; simp [hl]
      | cons a b => cases xs <;> simp at hl ⊢
    have go : ∀ {Q' : Value → Shared → Prop}, (∀ R, Meets (Builtin.«tuple.__mul__» ⟨[.ref l, .int k t], []⟩) R → wpAny (model X.prog X.w) X.A (binaryOp .Mult (.ref l) (.int k t)) Q' X.xe s) → True := fun _ => True.intro
    by_cases one : xs = [] ∨ k = 1
    · have c1 : (its.toArray.isEmpty || k == 1) = true := by
        rcases one with e | e
        · rw [emp.mpr e]; rfl
        · rw [e]; simp
      exact wpAny_binaryOp_repeat_ref (T := "tuple") (U := "int") (by decide) ⟨_, ho, rfl⟩ (fun s' => typeIs_int s' k t) noFill_tuple_mul F.fills_int_mul F.slot_int_rmul repeat_tuple F.slot_int_index.lookup
        (call_meets F.slot_int_rmul (typeIs_int s k t) F.entry_int_rmul (F.args_int_rmul_2 _ _) (int_rmul_tuple k t l its.toArray n dd sl)
          ⟨ho, rfl, ⟨_, ho, rfl⟩, call_meets F.slot_tuple_mul ⟨_, ho, rfl⟩ F.entry_tuple_mul (F.args_tuple_mul_2 _ _) (tmul_same l its.toArray n dd sl k t c0 c1) ⟨ho, ⟨.ref l, H, I, rfl, q1 one⟩⟩⟩)
    · have hne : xs ≠ [] := fun e => one (.inl e)
      have hk : k ≠ 1 := fun e => one (.inr e)
      have hk0 : k ≤ 0 := by
        have : ¬ 2 ≤ k := fun z => big ⟨hne, z⟩
        omega
      have ef : its.toArray.isEmpty = false := by
        cases e : its.toArray.isEmpty with
        | false => rfl
        | true => exact absurd (emp.mp e) hne
      have c1 : (its.toArray.isEmpty || k == 1) = false := by
        rw [ef, Bool.false_or]
        exact beq_eq_false_iff_ne.mpr hk
      have c2 : (decide (k ≤ 0) || its.toArray.isEmpty) = true := by
        rw [decide_eq_true hk0]
        rfl
      have e0 : (List.replicate k.toNat xs).flatten = [] := by
        rw [show k.toNat = 0 by omega]
        rfl
      have q3 := q2 one
      rw [e0] at q3
      refine wpAny_binaryOp_repeat_ref (T := "tuple") (U := "int") (by decide) ⟨_, ho, rfl⟩ (fun s' => typeIs_int s' k t) noFill_tuple_mul F.fills_int_mul F.slot_int_rmul repeat_tuple F.slot_int_index.lookup
        (call_meets F.slot_int_rmul (typeIs_int s k t) F.entry_int_rmul (F.args_int_rmul_2 _ _) (int_rmul_tuple k t l its.toArray n dd sl)
          ⟨ho, rfl, ⟨_, ho, rfl⟩, call_meets F.slot_tuple_mul ⟨_, ho, rfl⟩ F.entry_tuple_mul (F.args_tuple_mul_2 _ _) (tmul_none l its.toArray n dd sl k t c0 c1 c2) ⟨ho, ?_⟩⟩)
      refine ⟨.ref s.heap.objs.size, _, I.laid (t' := s.toks) (o := .tup []) (fun b ob q => Heap.get?_push_of_some _ q) (Nat.le_refl _) ?_, rfl, q3 _ (I.hok.fresh (Nat.le_refl _))⟩
      exact ⟨Nat.zero_le _, [], .nil, IsTup.new _ _⟩
theorem repl_one {α : Type} (xs : List α) : (List.replicate (1 : Int).toNat xs).flatten = xs := by simp
theorem ok_mul (hK : X.K = G.K) : OpR X (binaryOp .Mult) (rO2 G opMul) := by
  refine OpR.imp (((op_mulW (X := X)).or op_mul).or (op_repA.or op_rep)) fun x y H Q ⟨ι, S, v, w, s, rv, rw', k⟩ => ?_
  unfold opMul at k
  split at k
  · split at k
    · rename_i hz
      obtain rfl := rep_int.mp rv
      obtain rfl := rep_int.mp rw'
      exact .inl (.inl ⟨_, _, rfl, rfl, hz, KO.here (R := RV G) k s (rep_int.mpr rfl)⟩)
    · split at k
      · rename_i hz
        obtain rfl := rep_int.mp rv
        obtain rfl := rep_int.mp rw'
        exact .inl (.inr ⟨_, _, rfl, rfl, .inr ⟨by omega, by omega⟩, KO.here (R := RV G) k s (rep_int.mpr rfl)⟩)
      · exact k.elim
  · rename_i xs kk
    split at k
    · rename_i hz
      obtain ⟨a, vs, rfl, h1, h2⟩ := rep_tup.mp rv
      obtain rfl := rep_int.mp rw'
      refine .inr (.inl ⟨a, kk, vs, rfl, rfl, by rw [hK]; exact h1, hz.1, hz.2.1, by rw [h2.len]; exact hz.2.2, fun e => ?_, fun _ => KO.tup k s (h2.repl _)⟩)
      refine KO.here (R := RV G) k s (rep_tup.mpr ⟨a, vs, rfl, h1, ?_⟩)
      rcases e with e | e
      · subst e
        have e2 : xs = [] := List.eq_nil_of_length_eq_zero h2.len.symm
        subst e2
        have e3 : repP [] kk = [] := by unfold repP; induction kk.toNat with
          | zero => rfl
          | succ m ih => rw [List.replicate_succ, List.flatten_cons, ih]; rfl
        rw [e3]
        exact h2
      · subst e
        unfold repP
        rw [repl_one]
        exact h2
    · exact k.elim
  · rename_i i kk
    split at k
    · rename_i xs e1
      split at k
      · rename_i hz
        obtain ⟨rfl, _⟩ := rep_lst.mp rv
        obtain rfl := rep_int.mp rw'
        obtain ⟨_, vs, h1, h2⟩ := s.get e1
        exact .inr (.inr ⟨_, kk, vs, rfl, rfl, h1, by omega, by omega, by rw [h2.len, sizeLine_eq]; exact hz.2.2, KO.lst k s (h2.repl _)⟩)
      · exact k.elim
    · exact k.elim
  · exact k.elim
theorem ok_div : OpR X (binaryOp .FloorDiv) (rO2 G opDiv) := by
  have base : OpR X (binaryOp .FloorDiv) (rI (fun _ j => j ≠ 0 ∧ j.natAbs.log2 < 9000) fun i j => .int (i.fdiv j)) := opI fun _ _ _ _ _ _ _ hc q => floordiv_int hc.1 q (.inl (PyProof.noPylong_of_log2 hc.2))
  refine OpR.imp base fun x y H Q ⟨ι, S, v, w, s, rv, rw', k⟩ => ?_
  unfold opDiv at k
  split at k
  · split at k
    · rename_i hz
      obtain rfl := rep_int.mp rv
      obtain rfl := rep_int.mp rw'
      exact ⟨_, _, rfl, rfl, hz, KO.here (R := RV G) k s (rep_int.mpr rfl)⟩
    · exact k.elim
  · exact k.elim
theorem ok_mod : OpR X (binaryOp .Mod) (rO2 G opMod) := by
  refine OpR.imp (op_modN (X := X)) fun x y H Q ⟨ι, S, v, w, s, rv, rw', k⟩ => ?_
  unfold opMod at k
  split at k
  · split at k
    · rename_i hz
      obtain rfl := rep_int.mp rv
      obtain rfl := rep_int.mp rw'
      exact ⟨_, _, rfl, rfl, hz, KO.here (R := RV G) k s (rep_int.mpr rfl)⟩
    · exact k.elim
  · exact k.elim
theorem ok_pow : OpR X (binaryOp .Pow) (rO2 G opPow) := by
  refine OpR.imp (op_pow (X := X)) fun x y H Q ⟨ι, S, v, w, s, rv, rw', k⟩ => ?_
  unfold opPow at k
  split at k
  · split at k
    · rename_i hz
      obtain rfl := rep_int.mp rv
      obtain rfl := rep_int.mp rw'
      exact ⟨_, _, rfl, rfl, hz, KO.here (R := RV G) k s (rep_int.mpr rfl)⟩
    · exact k.elim
  · exact k.elim
theorem ok_neg : UnR X (unaryOp .USub) (rO1 G opNeg) := by
  refine UnR.imp (un_neg (X := X)) fun x H Q ⟨ι, S, v, s, rv, k⟩ => ?_
  unfold opNeg at k
  split at k
  · obtain rfl := rep_int.mp rv
    exact ⟨_, rfl, KO.here (R := RV G) k s (rep_int.mpr rfl)⟩
  · exact k.elim
theorem ok_cInt {op : CmpOp} {p : Int → Int → Bool} (h : OpR X (compareOp op) (rI0 fun i j => .bl (p i j))) : OpR X (compareOp op) (rO2 G (cInt p)) := by
  refine OpR.imp h fun x y H Q ⟨ι, S, v, w, s, rv, rw', k⟩ => ?_
  unfold cInt at k
  split at k
  · obtain rfl := rep_int.mp rv
    obtain rfl := rep_int.mp rw'
    exact ⟨_, _, rfl, rfl, KO.here (R := RV G) k s (rep_bl.mpr rfl)⟩
  · exact k.elim
/-- what is None -/
theorem rep_isN {K : PySem.W.Frag} {ga : Nat → Addr} {H : Hp} {ι : Nat → Addr} {n : Nat} {v : PV} {x : V} (r : Rep K ga H ι n v x) (hv : v ≠ .non) : x ≠ .non := by
  cases v with
  | non => exact absurd rfl hv
  | bl b => rw [rep_bl.mp r]; intro e; cases e
  | int b => rw [rep_int.mp r]; intro e; cases e
  | str b => rw [rep_str.mp r]; intro e; cases e
  | tup b => obtain ⟨a, vs, rfl, _⟩ := rep_tup.mp r; intro e; cases e
  | fl b => obtain ⟨a, vs, rfl, _⟩ := rep_fl r; intro e; cases e
  | lst b => rw [(rep_lst.mp r).1]; intro e; cases e
  | g b => rw [rep_g.mp r]; intro e; cases e
theorem ok_is : OpR X (compareOp .Is) (rO2 G cIs) := by
  refine OpR.imp ((op_isN (X := X)).or op_isBl) fun x y H Q ⟨ι, S, v, w, s, rv, rw', k⟩ => ?_
  unfold cIs at k
  split at k
  · obtain rfl := rep_non.mp rw'
    split at k
    · obtain rfl := rep_non.mp rv
      exact .inl ⟨rfl, KO.here (R := RV G) k s (rep_bl.mpr (by simp))⟩
    · exact k.elim
    · rename_i h1 h2
      have := rep_isN rv h1
      exact .inl ⟨rfl, KO.here (R := RV G) k s (rep_bl.mpr (by simp [this]))⟩
  · obtain rfl := rep_bl.mp rw'
    split at k
    · obtain rfl := rep_bl.mp rv
      exact .inr ⟨_, _, rfl, rfl, KO.here (R := RV G) k s (rep_bl.mpr rfl)⟩
    · exact k.elim
  · exact k.elim
theorem ok_isN : OpR X (compareOp .IsNot) (rO2 G cIsN) := by
  refine OpR.imp ((op_notN (X := X)).or op_notBl) fun x y H Q ⟨ι, S, v, w, s, rv, rw', k⟩ => ?_
  unfold cIsN at k
  split at k
  · obtain rfl := rep_non.mp rw'
    split at k
    · obtain rfl := rep_non.mp rv
      exact .inl ⟨rfl, KO.here (R := RV G) k s (rep_bl.mpr (by simp))⟩
    · exact k.elim
    · rename_i h1 h2
      have := rep_isN rv h1
      exact .inl ⟨rfl, KO.here (R := RV G) k s (rep_bl.mpr (by simp [this]))⟩
  · obtain rfl := rep_bl.mp rw'
    split at k
    · obtain rfl := rep_bl.mp rv
      exact .inr ⟨_, _, rfl, rfl, KO.here (R := RV G) k s (rep_bl.mpr rfl)⟩
    · exact k.elim
  · exact k.elim
/-- items by index -/
theorem atI_rep {K : PySem.W.Frag} {ga : Nat → Addr} {H : Hp} {ι : Nat → Addr} {n : Nat} {xs : List PV} {vs : List V} {i : Int} {v : PV} (r : Reps K ga H ι n xs vs) (h : L2.atI xs i = some v) : ∃ u, L2.atI vs i = some u ∧ Rep K ga H ι n v u := by
  unfold L2.atI at h ⊢
  rw [r.len]
  cases e : L2.ixN xs.length i with
  | none => rw [e] at h; cases h
  | some j =>
    rw [e] at h
    exact r.get (i := j) (by simpa using h)
theorem ok_ix (hK : X.K = G.K) : IxR X (rO2 G oIx) := by
  refine IxR.imp (ix_seq (X := X)) fun x y H Q ⟨ι, S, v, w, s, rv, rw', k⟩ => ?_
  unfold oIx at k
  split at k
  · obtain rfl := rep_int.mp rw'
    split at k
    · rename_i l
      split at k
      · rename_i hl
        split at k
        · rename_i c e
          obtain rfl := rep_str.mp rv
          refine .inr (.inr ⟨_, _, c, rfl, rfl, ?_, ?_, KO.here (R := RV G) k s (rep_str.mpr rfl)⟩)
          · show l.toArray.size ≤ sizeLine
            rw [sizeLine_eq]; simpa using hl
          · simpa using e
        · exact k.elim
      · exact k.elim
    · split at k
      · rename_i t xs e
        obtain ⟨a, vs, rfl, h1, h2⟩ := seqD_ok s rv e
        split at k
        · rename_i u eu
          obtain ⟨z, ez, rz⟩ := atI_rep h2 eu
          have q := KO.here (R := RV G) k s rz
          cases t with
          | true => exact .inr (.inl ⟨a, vs, _, z, rfl, rfl, by rw [hK]; exact h1, ez, q⟩)
          | false => exact .inl ⟨a, vs, _, z, rfl, rfl, by rw [hK]; exact h1, ez, q⟩
        · exact k.elim
      · exact k.elim
  · exact k.elim
def rO3 (G : Gc) (g : PV → Option Int → Option Int → Sto → Option (PV × Sto)) : V → Option Int → Option Int → Hp → VK → Prop := fun x lo hi H Q => ∃ ι S v, SRel G H ι S ∧ Rep G.K G.ga H ι S.length v x ∧ KO G H ι S.length (g v lo hi S) (RV G) Q
theorem cut_rep {K : PySem.W.Frag} {ga : Nat → Addr} {H : Hp} {ι : Nat → Addr} {n : Nat} {xs : List PV} {vs : List V} {lo hi : Option Int} (r : Reps K ga H ι n xs vs) : Reps K ga H ι n (cutP xs lo hi) (cutV vs lo hi) := by
  unfold cutP cutV
  rw [r.len]
  exact (r.drop _).take _
theorem cut_whole {α : Type} (xs : List α) {a b : Nat} (ha : a = 0) (hb : b = xs.length) : (xs.drop a).take (b - a) = xs := by
  subst ha hb
  simp
theorem ok_sl (hK : X.K = G.K) : SlR X (rO3 G oSl) := by
  refine SlR.imp ((sl_tupA (X := X)).or sl_list) fun x lo hi H Q ⟨ι, S, v, s, rv, k⟩ => ?_
  unfold oSl at k
  split at k
  · obtain ⟨a, vs, rfl, h1, h2⟩ := rep_tup.mp rv
    refine .inl ⟨a, vs, rfl, by rw [hK]; exact h1, fun e => ?_, fun _ => KO.tup k s (cut_rep h2)⟩
    refine KO.here (R := RV G) k s (rep_tup.mpr ⟨a, vs, rfl, h1, ?_⟩)
    unfold cutP
    rw [h2.len] at e
    rw [cut_whole _ e.1 e.2]
    exact h2
  · split at k
    · rename_i xs e
      obtain ⟨rfl, _⟩ := rep_lst.mp rv
      obtain ⟨_, vs, h1, h2⟩ := s.get e
      exact .inr ⟨_, vs, rfl, SqL.of h1, KO.lst k s (cut_rep h2)⟩
    · exact k.elim
  · obtain ⟨a, vs, rfl, h1, h2⟩ := rep_fl rv
    exact .inr ⟨a, vs, rfl, by rw [hK]; exact h1, KO.lst k s (cut_rep h2)⟩
  · exact k.elim
end
end Mi

set_option Elab.async false
set_option linter.all false
set_option maxRecDepth 100000
namespace Mi
open PySem PySem.Spec PyProof.Rows L2

/-! ### data of the library -/
def dat (S : Sto) : Nat → PV → PyData
  | _, .non => .none
  | _, .bl b => .bool b
  | _, .int i => .int i
  | _, .str l => .str ⟨l.toArray⟩
  | 0, _ => .none
  | n + 1, .tup xs => .tuple (xs.map (dat S n))
  | n + 1, .fl xs => .list (xs.map (dat S n))
  | n + 1, .lst i => match cellL S i with
    | some xs => .list (xs.map (dat S n))
    | none => .none
  | _ + 1, .g _ => .none
theorem dpAll_of {K : PySem.W.Frag} {H : Hp} {f : PV → PyData} {ga : Nat → Addr} {ι : Nat → Addr} {m : Nat} : ∀ {xs : List PV} {vs : List V}, (∀ x, x ∈ xs → ∀ v, Rep K ga H ι m x v → Dp K H v (f x)) → Reps K ga H ι m xs vs → DpAll K H vs (xs.map f)
  | [], vs, _, h => by rw [h.of_nil]; exact .nil
  | x :: xs, vs, k, h => by
    obtain ⟨v, r, rfl, h1, h2⟩ := h.uncons
    exact .cons (k x List.mem_cons_self v h1) (dpAll_of (fun y hy => k y (List.mem_cons_of_mem _ hy)) h2)
theorem canAll_of {f : PV → PyData} : ∀ {xs : List PV}, (∀ x, x ∈ xs → (f x).canLay0 = true) → PyData.canLayAll0 (xs.map f) = true
  | [], _ => rfl
  | x :: xs, k => by
    simp only [List.map_cons, PyData.canLayAll0, Bool.and_eq_true]
    exact ⟨k x List.mem_cons_self, canAll_of fun y hy => k y (List.mem_cons_of_mem _ hy)⟩
theorem depAll_of {f : PV → PyData} {d : Nat} : ∀ {xs : List PV}, (∀ x, x ∈ xs → (f x).depth ≤ d) → PyData.depthAll (xs.map f) ≤ d
  | [], _ => by simp [PyData.depthAll]
  | x :: xs, k => by
    simp only [List.map_cons, PyData.depthAll]
    exact Nat.max_le.mpr ⟨k x List.mem_cons_self, depAll_of fun y hy => k y (List.mem_cons_of_mem _ hy)⟩
theorem okD_ok {G : Gc} {H : Hp} {ι : Nat → Addr} {S : Sto} (s : SRel G H ι S) : ∀ (n : Nat) (v : PV) (x : V), okD S n v = true → Rep G.K G.ga H ι S.length v x → Dp G.K H x (dat S n v) ∧ (dat S n v).canLay0 = true ∧ (dat S n v).depth ≤ n := by
  have sc : ∀ (n : Nat) (v : PV) (x : V), (∀ xs, v ≠ .tup xs) → (∀ xs, v ≠ .fl xs) → (∀ i, v ≠ .lst i) → (∀ i, v ≠ .g i) → okD S n v = true → Rep G.K G.ga H ι S.length v x → Dp G.K H x (dat S n v) ∧ (dat S n v).canLay0 = true ∧ (dat S n v).depth ≤ n := by
    intro n v x h1 h2 h3 h4 ok r
    cases v with
    | non => obtain rfl := rep_non.mp r; cases n <;> exact ⟨.non, rfl, Nat.zero_le _⟩
    | bl b => obtain rfl := rep_bl.mp r; cases n <;> exact ⟨.bl b, rfl, Nat.zero_le _⟩
    | int i => obtain rfl := rep_int.mp r; cases n <;> exact ⟨.int i, rfl, Nat.zero_le _⟩
    | str l =>
      obtain rfl := rep_str.mp r
      have hl : PyData.strOk ⟨l.toArray⟩ = true := by
        unfold PyData.strOk
        have ok' : (l.all fun c => Nat.blt c 55296) = true := by cases n <;> simpa [okD] using ok
        rw [List.all_eq_true] at ok'
        simp only [List.all_toArray, List.all_eq_true]
        intro c hc
        have := ok' c hc
        simp only [Nat.blt_eq] at this
        exact decide_eq_true (by omega)
      cases n <;> exact ⟨.str _, hl, Nat.zero_le _⟩
    | tup xs => exact absurd rfl (h1 xs)
    | fl xs => exact absurd rfl (h2 xs)
    | lst i => exact absurd rfl (h3 i)
    | g i => exact absurd rfl (h4 i)
  intro n
  induction n with
  | zero =>
    intro v x ok r
    refine sc 0 v x ?_ ?_ ?_ ?_ ok r <;> (intro z e; subst e; simp [okD] at ok)
  | succ n ih =>
    intro v x ok r
    have many : ∀ {xs : List PV} {vs : List V}, xs.all (okD S n) = true → Reps G.K G.ga H ι S.length xs vs → DpAll G.K H vs (xs.map (dat S n)) ∧ PyData.canLayAll0 (xs.map (dat S n)) = true ∧ PyData.depthAll (xs.map (dat S n)) ≤ n := by
      intro xs vs ok rs
      rw [List.all_eq_true] at ok
      have got : ∀ x, x ∈ xs → ∃ v, Rep G.K G.ga H ι S.length x v := fun x hx => by
        obtain ⟨i, hi⟩ := List.getElem?_of_mem hx
        obtain ⟨u, _, r⟩ := rs.get hi
        exact ⟨u, r⟩
      exact ⟨dpAll_of (fun x hx v r => (ih x v (ok x hx) r).1) rs, canAll_of fun x hx => by
        obtain ⟨v, r⟩ := got x hx
        exact (ih x v (ok x hx) r).2.1, depAll_of fun x hx => by
        obtain ⟨v, r⟩ := got x hx
        exact (ih x v (ok x hx) r).2.2⟩
    cases v with
    | tup xs =>
      obtain ⟨a, vs, rfl, h1, h2⟩ := rep_tup.mp r
      obtain ⟨q1, q2, q3⟩ := many (by simpa [okD] using ok) h2
      exact ⟨.tup h1 q1, q2, Nat.succ_le_succ q3⟩
    | fl xs =>
      obtain ⟨a, vs, rfl, h1, h2⟩ := rep_fl r
      obtain ⟨q1, q2, q3⟩ := many (by simpa [okD] using ok) h2
      exact ⟨.lst h1 q1, q2, Nat.succ_le_succ q3⟩
    | lst i =>
      obtain ⟨rfl, _⟩ := rep_lst.mp r
      simp only [okD] at ok
      cases e : cellL S i with
      | none => rw [e] at ok; cases ok
      | some xs =>
        rw [e] at ok
        obtain ⟨_, vs, h1, h2⟩ := s.get e
        obtain ⟨q1, q2, q3⟩ := many ok h2
        have ed : dat S (n + 1) (.lst i) = .list (xs.map (dat S n)) := by simp only [dat, e]
        rw [ed]
        exact ⟨.lst (SqL.of h1) q1, q2, Nat.succ_le_succ q3⟩
    | g i => simp [okD] at ok
    | non => exact sc _ _ x (fun _ e => by cases e) (fun _ e => by cases e) (fun _ e => by cases e) (fun _ e => by cases e) ok r
    | bl b => exact sc _ _ x (fun _ e => by cases e) (fun _ e => by cases e) (fun _ e => by cases e) (fun _ e => by cases e) ok r
    | int i => exact sc _ _ x (fun _ e => by cases e) (fun _ e => by cases e) (fun _ e => by cases e) (fun _ e => by cases e) ok r
    | str l => exact sc _ _ x (fun _ e => by cases e) (fun _ e => by cases e) (fun _ e => by cases e) (fun _ e => by cases e) ok r
theorem eqvAll_of {f : PV → PyData} {g : PV → PV → Bool} : ∀ {xs ys : List PV}, (∀ x, x ∈ xs → ∀ y, y ∈ ys → g x y = PyData.eqv (f x) (f y)) → eqL g xs ys = PyData.eqvAll (xs.map f) (ys.map f)
  | [], [], _ => by simp [eqL, PyData.eqvAll]
  | [], y :: ys, _ => by simp [eqL, PyData.eqvAll]
  | x :: xs, [], _ => by simp [eqL, PyData.eqvAll]
  | x :: xs, y :: ys, k => by
    simp only [eqL, List.map_cons, PyData.eqvAll]
    rw [k x List.mem_cons_self y List.mem_cons_self, eqvAll_of fun a ha b hb => k a (List.mem_cons_of_mem _ ha) b (List.mem_cons_of_mem _ hb)]
/-- a sequence as data -/
theorem dat_seq {S : Sto} {n : Nat} {v : PV} {t : Bool} {xs : List PV} (h : seqD S v = some (t, xs)) : dat S (n + 1) v = if t = true then .tuple (xs.map (dat S n)) else .list (xs.map (dat S n)) := by
  cases v with
  | tup ys => have e : (true, ys) = (t, xs) := by simpa [seqD] using h
              cases e; rfl
  | fl ys => have e : (false, ys) = (t, xs) := by simpa [seqD] using h
             cases e; rfl
  | lst i =>
    simp only [seqD] at h
    cases e : cellL S i with
    | none => rw [e] at h; cases h
    | some ys =>
      rw [e] at h
      have e2 : (false, ys) = (t, xs) := by simpa using h
      cases e2
      simp only [dat, e]
      rfl
  | _ => cases h
theorem okD_seq {S : Sto} {n : Nat} {v : PV} (h : okD S n v = true) : (∃ m t xs, n = m + 1 ∧ seqD S v = some (t, xs) ∧ xs.all (okD S m) = true) ∨ (seqD S v = none ∧ (v = .non ∨ (∃ b, v = .bl b) ∨ (∃ i, v = .int i) ∨ ∃ l, v = .str l)) := by
  cases v with
  | tup xs => cases n with
    | zero => simp [okD] at h
    | succ m => exact .inl ⟨m, true, xs, rfl, rfl, by simpa [okD] using h⟩
  | fl xs => cases n with
    | zero => simp [okD] at h
    | succ m => exact .inl ⟨m, false, xs, rfl, rfl, by simpa [okD] using h⟩
  | lst i => cases n with
    | zero => simp [okD] at h
    | succ m =>
      simp only [okD] at h
      cases e : cellL S i with
      | none => rw [e] at h; cases h
      | some xs =>
        rw [e] at h
        exact .inl ⟨m, false, xs, rfl, by simp [seqD, e], h⟩
  | g i => cases n <;> simp [okD] at h
  | non => exact .inr ⟨rfl, .inl rfl⟩
  | bl b => exact .inr ⟨rfl, .inr (.inl ⟨b, rfl⟩)⟩
  | int i => exact .inr ⟨rfl, .inr (.inr (.inl ⟨i, rfl⟩))⟩
  | str l => exact .inr ⟨rfl, .inr (.inr (.inr ⟨l, rfl⟩))⟩
theorem str_dec (x y : List Nat) : decide (x = y) = ((⟨x.toArray⟩ : Str) == ⟨y.toArray⟩) := by
  rw [Bool.eq_iff_iff]
  simp
theorem eqD_seq {S : Sto} {n : Nat} {a b : PV} {k l : Bool} {xs ys : List PV} (ha : seqD S a = some (k, xs)) (hb : seqD S b = some (l, ys)) : eqD S (n + 1) a b = ((k == l) && eqL (eqD S n) xs ys) := by
  cases a <;> first | (cases ha; done) | skip
  all_goals (cases b <;> first | (cases hb; done) | skip)
  all_goals (simp only [eqD, ha, hb])
theorem eqD_mix {S : Sto} {n : Nat} {a b : PV} (ha : seqD S a = none ∨ seqD S b = none) (hs : seqD S a ≠ none ∨ seqD S b ≠ none) : eqD S (n + 1) a b = false := by
  cases a <;> cases b <;> simp only [eqD] <;> first
    | rfl
    | (exfalso; rcases hs with k | k <;> exact k rfl)
    | (split <;> first
        | rfl
        | (rename_i e1 e2; exfalso; rcases ha with h | h <;> first | (rw [h] at e1; cases e1; done) | (rw [h] at e2; cases e2; done)))
theorem eqD_ok {S : Sto} : ∀ (n : Nat) (a b : PV), okD S n a = true → okD S n b = true → eqD S n a b = PyData.eqv (dat S n a) (dat S n b) := by
  intro n
  induction n with
  | zero =>
    intro a b oa ob
    cases a <;> first | (simp [okD] at oa; done) | skip
    all_goals (cases b <;> first | (simp [okD] at ob; done) | skip)
    all_goals (simp only [eqD, dat, PyData.eqv])
    · rw [← Bool.beq_eq_decide_eq]
    · rw [← Bool.beq_eq_decide_eq]
    · rw [← Bool.beq_eq_decide_eq]
    · exact str_dec _ _
  | succ n ih =>
    intro a b oa ob
    rcases okD_seq oa with ⟨m, k, xs, en, ea, aa⟩ | ⟨ea, ka⟩
    · rcases okD_seq ob with ⟨m', l, ys, en', eb, ab⟩ | ⟨eb, kb⟩
      · have e1 : n = m := Nat.succ.inj en
        have e2 : n = m' := Nat.succ.inj en'
        subst e1 e2
        rw [eqD_seq ea eb, dat_seq ea, dat_seq eb]
        rw [List.all_eq_true] at aa ab
        have e3 := eqvAll_of (f := dat S n) (g := eqD S n) (xs := xs) (ys := ys) fun x hx y hy => ih x y (aa x hx) (ab y hy)
        rw [e3]
        cases k <;> cases l <;> simp [PyData.eqv]
      · rw [eqD_mix (.inr eb) (.inl (by rw [ea]; exact fun z => by cases z)), dat_seq ea]
        rcases kb with rfl | ⟨z, rfl⟩ | ⟨z, rfl⟩ | ⟨z, rfl⟩ <;> cases k <;> simp [dat, PyData.eqv]
    · rcases okD_seq ob with ⟨m', l, ys, en', eb, ab⟩ | ⟨eb, kb⟩
      · rw [eqD_mix (.inl ea) (.inr (by rw [eb]; exact fun z => by cases z)), dat_seq eb]
        rcases ka with rfl | ⟨z, rfl⟩ | ⟨z, rfl⟩ | ⟨z, rfl⟩ <;> cases l <;> simp [dat, PyData.eqv]
      · rcases ka with rfl | ⟨z, rfl⟩ | ⟨z, rfl⟩ | ⟨z, rfl⟩ <;> rcases kb with rfl | ⟨w, rfl⟩ | ⟨w, rfl⟩ | ⟨w, rfl⟩ <;> simp only [eqD, dat, PyData.eqv, seqD]
        · rw [← Bool.beq_eq_decide_eq]
        · rw [← Bool.beq_eq_decide_eq]
        · rw [← Bool.beq_eq_decide_eq]
        · exact str_dec _ _
end Mi

set_option Elab.async false
set_option linter.all false
set_option maxRecDepth 100000
namespace Mi
open PySem PySem.Spec PyProof.Rows L2

section
variable {X : Cx} {G : Gc}
theorem dec_shaped {d : PyData} {n : Nat} (hn : n ≤ 64) (h1 : d.canLay0 = true) (h2 : d.depth ≤ n) : SeqAt.shaped d = true := by
  unfold SeqAt.shaped
  rw [h1, decide_eq_true (Nat.le_trans h2 hn)] <;> rfl
theorem ok_eq (hK : X.K = G.K) (hu : X.A.units + 64 < cLine) : OpR X (compareOp .Eq) (rO2 G cEq) := by
  refine OpR.imp (op_eqD hu) fun x y H Q ⟨ι, S, v, w, s, rv, rw', k⟩ => ?_
  unfold cEq at k
  split at k
  · rename_i h
    rw [Bool.and_eq_true] at h
    obtain ⟨a1, a2, a3⟩ := okD_ok s 64 v x h.1 rv
    obtain ⟨b1, b2, b3⟩ := okD_ok s 64 w y h.2 rw'
    refine ⟨_, _, by rw [hK]; exact a1, by rw [hK]; exact b1, dec_shaped (Nat.le_refl _) a2 a3, dec_shaped (Nat.le_refl _) b2 b3, KO.here (R := RV G) k s (rep_bl.mpr ?_)⟩
    rw [eqD_ok 64 v w h.1 h.2]
  · exact k.elim
theorem ok_ne (hK : X.K = G.K) (hu : X.A.units + 64 < cLine) : OpR X (compareOp .NotEq) (rO2 G cNe) := by
  refine OpR.imp (op_neD hu) fun x y H Q ⟨ι, S, v, w, s, rv, rw', k⟩ => ?_
  unfold cNe at k
  split at k
  · rename_i h
    rw [Bool.and_eq_true] at h
    obtain ⟨a1, a2, a3⟩ := okD_ok s 64 v x h.1 rv
    obtain ⟨b1, b2, b3⟩ := okD_ok s 64 w y h.2 rw'
    refine ⟨_, _, by rw [hK]; exact a1, by rw [hK]; exact b1, dec_shaped (Nat.le_refl _) a2 a3, dec_shaped (Nat.le_refl _) b2 b3, KO.here (R := RV G) k s (rep_bl.mpr ?_)⟩
    rw [eqD_ok 64 v w h.1 h.2]
  · exact k.elim
def rInA (K : PySem.W.Frag) (neg : Bool) : R2 := fun x y H Q => ∃ d ds, Dp K H x d ∧ (Dp K H y (.list ds) ∨ Dp K H y (.tuple ds)) ∧ d.canLay0 = true ∧ PyData.canLayAll0 ds = true ∧ d.depth ≤ 62 ∧ Q (.bl (if neg then !(ds.any fun z => PyData.eqv z d) else ds.any fun z => PyData.eqv z d)) H
theorem op_inA (hu : X.A.units + 64 < cLine) : OpR X (compareOp .In) (rInA X.K false) := by
  intro pins s σ H x y v u Q I rx ry h
  obtain ⟨d, ds, hd, he, c1, c2, dp, q⟩ := h
  obtain ⟨as, r1⟩ := Dp.reads I d x v hd rx
  have hr : X.A.units + 1 + min (PyData.depthAll ds) d.depth < cLine := by
    have : min (PyData.depthAll ds) d.depth ≤ d.depth := Nat.min_le_right _ _
    omega
  rcases he with he | he
  · obtain ⟨bs, r2⟩ := Dp.reads I _ y u he ry
    exact SeqAt.in_list_reads r2 r1 c2 c1 hr ⟨.bl _, H, I, rfl, q⟩
  · obtain ⟨bs, r2⟩ := Dp.reads I _ y u he ry
    exact SeqAt.in_tuple_reads r2 r1 c2 c1 hr ⟨.bl _, H, I, rfl, q⟩
theorem op_niA (hu : X.A.units + 64 < cLine) : OpR X (compareOp .NotIn) (rInA X.K true) := by
  intro pins s σ H x y v u Q I rx ry h
  obtain ⟨d, ds, hd, he, c1, c2, dp, q⟩ := h
  obtain ⟨as, r1⟩ := Dp.reads I d x v hd rx
  have hr : X.A.units + 1 + min (PyData.depthAll ds) d.depth < cLine := by
    have : min (PyData.depthAll ds) d.depth ≤ d.depth := Nat.min_le_right _ _
    omega
  rcases he with he | he
  · obtain ⟨bs, r2⟩ := Dp.reads I _ y u he ry
    exact SeqAt.notIn_list_reads r2 r1 c2 c1 hr ⟨.bl _, H, I, rfl, q⟩
  · obtain ⟨bs, r2⟩ := Dp.reads I _ y u he ry
    exact SeqAt.notIn_tuple_reads r2 r1 c2 c1 hr ⟨.bl _, H, I, rfl, q⟩
theorem any_eqv {S : Sto} {n : Nat} {v : PV} (hv : okD S n v = true) : ∀ {ys : List PV}, ys.all (okD S n) = true → (ys.any fun y => eqD S n y v) = ((ys.map (dat S n)).any fun z => PyData.eqv z (dat S n v))
  | [], _ => rfl
  | y :: ys, h => by
    rw [List.all_cons, Bool.and_eq_true] at h
    rw [List.any_cons, List.map_cons, List.any_cons, eqD_ok n y v h.1 hv, any_eqv hv h.2]
theorem in_ok {H : Hp} {ι : Nat → Addr} {S : Sto} {v w : PV} {x y : V} {t : Bool} {ys : List PV} (s : SRel G H ι S) (rv : Rep G.K G.ga H ι S.length v x) (rw' : Rep G.K G.ga H ι S.length w y) (e : seqD S w = some (t, ys)) (h1 : okD S 62 v = true) (h2 : ys.all (okD S 62) = true) :
    ∃ d ds, Dp G.K H x d ∧ (Dp G.K H y (.list ds) ∨ Dp G.K H y (.tuple ds)) ∧ d.canLay0 = true ∧ PyData.canLayAll0 ds = true ∧ d.depth ≤ 62 ∧ (ys.any fun y => eqD S 62 y v) = (ds.any fun z => PyData.eqv z d) := by
  obtain ⟨a1, a2, a3⟩ := okD_ok s 62 v x h1 rv
  obtain ⟨a, vs, rfl, hq, hr⟩ := seqD_ok s rw' e
  have h2' := h2
  rw [List.all_eq_true] at h2'
  have got : ∀ z, z ∈ ys → ∃ u, Rep G.K G.ga H ι S.length z u := fun z hz => by
    obtain ⟨i, hi⟩ := List.getElem?_of_mem hz
    obtain ⟨u, _, r⟩ := hr.get hi
    exact ⟨u, r⟩
  have dA : DpAll G.K H vs (ys.map (dat S 62)) := dpAll_of (fun z hz u r => (okD_ok s 62 z u (h2' z hz) r).1) hr
  have cA : PyData.canLayAll0 (ys.map (dat S 62)) = true := canAll_of fun z hz => by
    obtain ⟨u, r⟩ := got z hz
    exact (okD_ok s 62 z u (h2' z hz) r).2.1
  refine ⟨dat S 62 v, ys.map (dat S 62), a1, ?_, a2, cA, a3, ?_⟩
  · cases t with
    | true => exact .inr (.tup hq dA)
    | false => exact .inl (.lst hq dA)
  · exact any_eqv h1 h2
theorem ok_in (hK : X.K = G.K) (hu : X.A.units + 64 < cLine) : OpR X (compareOp .In) (rO2 G cIn) := by
  refine OpR.imp (op_inA hu) fun x y H Q ⟨ι, S, v, w, s, rv, rw', k⟩ => ?_
  unfold cIn at k
  split at k
  · rename_i t ys e
    split at k
    · rename_i h
      rw [Bool.and_eq_true] at h
      obtain ⟨d, ds, a1, a2, a3, a4, a5, a6⟩ := in_ok s rv rw' e h.1 h.2
      refine ⟨d, ds, by rw [hK]; exact a1, by rw [hK]; exact a2, a3, a4, a5, KO.here (R := RV G) k s (rep_bl.mpr ?_)⟩
      rw [a6]
      rfl
    · exact k.elim
  · exact k.elim
theorem ok_ni (hK : X.K = G.K) (hu : X.A.units + 64 < cLine) : OpR X (compareOp .NotIn) (rO2 G cNi) := by
  refine OpR.imp (op_niA hu) fun x y H Q ⟨ι, S, v, w, s, rv, rw', k⟩ => ?_
  unfold cNi at k
  split at k
  · rename_i t ys e
    split at k
    · rename_i h
      rw [Bool.and_eq_true] at h
      obtain ⟨d, ds, a1, a2, a3, a4, a5, a6⟩ := in_ok s rv rw' e h.1 h.2
      refine ⟨d, ds, by rw [hK]; exact a1, by rw [hK]; exact a2, a3, a4, a5, KO.here (R := RV G) k s (rep_bl.mpr ?_)⟩
      rw [a6]
      rfl
    · exact k.elim
  · exact k.elim
end

/-! ### built-ins by values -/
def lenP (v : PV) (S : Sto) : Option Nat := match v with
  | .str l => if l.length ≤ 16777216 then some l.length else none
  | v => match seqD S v with
    | some (_, xs) => some xs.length
    | none => none
def bLen : OL := fun vs S => match vs with
  | [v] => match lenP v S with
    | some n => some (.int n, S)
    | none => none
  | _ => none
def bAbs : OL := fun vs S => match vs with
  | [.int i] => some (.int (if i < 0 then -i else i), S)
  | _ => none
def bInt : OL := fun vs S => match vs with
  | [.int i] => some (.int i, S)
  | [.bl b] => some (.int (if b then 1 else 0), S)
  | _ => none
def bGcd : OL := fun vs S => match vs with
  | [.int i, .int j] => some (.int ((Nat.gcd i.natAbs j.natAbs : Nat) : Int), S)
  | _ => none
def intsP : List PV → Option (List Int)
  | [] => some []
  | .int i :: r => match intsP r with
    | some l => some (i :: l)
    | none => none
  | _ :: _ => none
def boolsP : List PV → Option (List Bool)
  | [] => some []
  | .bl i :: r => match boolsP r with
    | some l => some (i :: l)
    | none => none
  | _ :: _ => none
def strsP : List PV → Option (List (List Nat))
  | [] => some []
  | .str i :: r => match strsP r with
    | some l => some (i :: l)
    | none => none
  | _ :: _ => none
def maxL : List Int → Int → Int
  | [], m => m
  | x :: r, m => maxL r (if m < x then x else m)
def minL : List Int → Int → Int
  | [], m => m
  | x :: r, m => minL r (if x < m then x else m)
def listD (S : Sto) (v : PV) : Option (List PV) := match seqD S v with
  | some (false, xs) => some xs
  | _ => none
def bMax : OL := fun vs S => match vs with
  | [.int i, .int j] => some (.int (if j > i then j else i), S)
  | [v] => match listD S v with
    | some xs => match intsP xs with
      | some (i :: r) => some (.int (maxL r i), S)
      | _ => none
    | none => none
  | _ => none
def bMin : OL := fun vs S => match vs with
  | [.int i, .int j] => some (.int (if j < i then j else i), S)
  | [v] => match listD S v with
    | some xs => match intsP xs with
      | some (i :: r) => some (.int (minL r i), S)
      | _ => none
    | none => none
  | _ => none
def bSum : OL := fun vs S => match vs with
  | [v] => match listD S v with
    | some xs => match intsP xs with
      | some ns => some (.int ns.sum, S)
      | none => none
    | none => none
  | _ => none
def bAll : OL := fun vs S => match vs with
  | [v] => match listD S v with
    | some xs => match boolsP xs with
      | some ns => some (.bl (ns.all id), S)
      | none => none
    | none => none
  | _ => none
def bAny : OL := fun vs S => match vs with
  | [v] => match listD S v with
    | some xs => match boolsP xs with
      | some ns => some (.bl (ns.any id), S)
      | none => none
    | none => none
  | _ => none
def bTup : OL := fun vs S => match vs with
  | [v] => match seqD S v with
    | some (_, xs) => some (.tup xs, S)
    | none => none
  | _ => none
def bList : OL := fun vs S => match vs with
  | [v] => match seqD S v with
    | some (_, xs) => some (.lst S.length, S ++ [.lst xs])
    | none => none
  | _ => none
def mApp : OL := fun vs S => match vs with
  | [.lst i, v] => match cellL S i with
    | some xs => if xs.length < 16777216 ∧ below i v = true then some (.non, S.set i (.lst (xs ++ [v]))) else none
    | none => none
  | _ => none
def joinP (sep : List Nat) : List (List Nat) → List Nat
  | [] => []
  | [p] => p
  | p :: q :: r => p ++ (sep ++ joinP sep (q :: r))
def mJoin : OL := fun vs S => match vs with
  | [.str a, v] => match seqD S v with
    | some (_, xs) => match strsP xs with
      | some ps => if (ps.map (·.length)).sum + ps.length * a.length ≤ 16777216 then some (.str (joinP a ps), S) else none
      | none => none
    | none => none
  | _ => none

section
variable {X : Cx} {G : Gc}
theorem reps1 {K : PySem.W.Frag} {ga : Nat → Addr} {H : Hp} {ι : Nat → Addr} {n : Nat} {a : PV} {xs : List V} (h : Reps K ga H ι n [a] xs) : ∃ x, xs = [x] ∧ Rep K ga H ι n a x := by
  obtain ⟨v, r, e, h1, h2⟩ := h.uncons
  rw [h2.of_nil] at e
  exact ⟨v, e, h1⟩
theorem reps2 {K : PySem.W.Frag} {ga : Nat → Addr} {H : Hp} {ι : Nat → Addr} {n : Nat} {a b : PV} {xs : List V} (h : Reps K ga H ι n [a, b] xs) : ∃ x y, xs = [x, y] ∧ Rep K ga H ι n a x ∧ Rep K ga H ι n b y := by
  obtain ⟨v, r, e, h1, h2⟩ := h.uncons
  obtain ⟨y, e2, h3⟩ := reps1 h2
  exact ⟨v, y, by rw [e, e2], h1, h3⟩
theorem ints_ok {K : PySem.W.Frag} {ga : Nat → Addr} {H : Hp} {ι : Nat → Addr} {n : Nat} : ∀ {xs : List PV} {vs : List V} {ns : List Int}, intsP xs = some ns → Reps K ga H ι n xs vs → vs = ns.map V.int
  | [], vs, ns, e, h => by
    cases e
    exact h.of_nil
  | .int i :: r, vs, ns, e, h => by
    obtain ⟨v, t, rfl, h1, h2⟩ := h.uncons
    simp only [intsP] at e
    cases q : intsP r with
    | none => rw [q] at e; cases e
    | some l =>
      rw [q] at e
      cases e
      rw [rep_int.mp h1, ints_ok q h2]
      rfl
theorem bools_ok {K : PySem.W.Frag} {ga : Nat → Addr} {H : Hp} {ι : Nat → Addr} {n : Nat} : ∀ {xs : List PV} {vs : List V} {ns : List Bool}, boolsP xs = some ns → Reps K ga H ι n xs vs → vs = ns.map V.bl
  | [], vs, ns, e, h => by
    cases e
    exact h.of_nil
  | .bl i :: r, vs, ns, e, h => by
    obtain ⟨v, t, rfl, h1, h2⟩ := h.uncons
    simp only [boolsP] at e
    cases q : boolsP r with
    | none => rw [q] at e; cases e
    | some l =>
      rw [q] at e
      cases e
      rw [rep_bl.mp h1, bools_ok q h2]
      rfl
def mkS (l : List Nat) : Str := ⟨l.toArray⟩
theorem strs_ok {K : PySem.W.Frag} {ga : Nat → Addr} {H : Hp} {ι : Nat → Addr} {n : Nat} : ∀ {xs : List PV} {vs : List V} {ns : List (List Nat)}, strsP xs = some ns → Reps K ga H ι n xs vs → vs = (ns.map mkS).map V.str
  | [], vs, ns, e, h => by
    cases e
    exact h.of_nil
  | .str i :: r, vs, ns, e, h => by
    obtain ⟨v, t, rfl, h1, h2⟩ := h.uncons
    simp only [strsP] at e
    cases q : strsP r with
    | none => rw [q] at e; cases e
    | some l =>
      rw [q] at e
      cases e
      rw [rep_str.mp h1, strs_ok q h2]
      rfl
theorem listD_ok {H : Hp} {ι : Nat → Addr} {S : Sto} {v : PV} {x : V} {xs : List PV} (s : SRel G H ι S) (r : Rep G.K G.ga H ι S.length v x) (h : listD S v = some xs) : ∃ a vs, x = .ref a ∧ SqL G.K H a vs ∧ Reps G.K G.ga H ι S.length xs vs := by
  unfold listD at h
  split at h
  · rename_i ys e
    cases h
    obtain ⟨a, vs, h1, h2, h3⟩ := seqD_ok s r e
    exact ⟨a, vs, h1, by simpa using h2, h3⟩
  · cases h
theorem ok_len (hK : X.K = G.K) : CallR X (.builtin "len") (rOL G bLen) := by
  refine CallR.imp (call_len (X := X)) fun xs H Q ⟨ι, S, vs, s, rs, k⟩ => ?_
  unfold bLen at k
  split at k
  · rename_i v
    obtain ⟨x, rfl, r⟩ := reps1 rs
    split at k
    · rename_i m e
      refine ⟨x, m, rfl, ?_, KO.here (R := RV G) k s (rep_int.mpr rfl)⟩
      unfold lenP at e
      split at e
      · rename_i l
        split at e
        · rename_i hl
          cases e
          obtain rfl := rep_str.mp r
          refine ⟨?_, ?_⟩
          · show l.toArray.size ≤ sizeLine
            rw [sizeLine_eq]; simpa using hl
          · show l.length = l.toArray.size
            simp
        · cases e
      · split at e
        · rename_i t ys eq
          cases e
          obtain ⟨a, ws, rfl, h1, h2⟩ := seqD_ok s r eq
          cases t with
          | true => exact .inr ⟨ws, by rw [hK]; exact h1, h2.len.symm⟩
          | false => exact .inl ⟨ws, by rw [hK]; exact h1, h2.len.symm⟩
        · cases e
    · exact k.elim
  · exact k.elim
theorem ok_abs : CallR X (.builtin "abs") (rOL G bAbs) := by
  refine CallR.imp (call_abs (X := X)) fun xs H Q ⟨ι, S, vs, s, rs, k⟩ => ?_
  unfold bAbs at k
  split at k
  · obtain ⟨x, rfl, r⟩ := reps1 rs
    rw [rep_int.mp r]
    exact ⟨_, rfl, KO.here (R := RV G) k s (rep_int.mpr rfl)⟩
  · exact k.elim
theorem ok_int : CallR X (.type "int") (rOL G bInt) := by
  refine CallR.imp (call_int1 (X := X)) fun xs H Q ⟨ι, S, vs, s, rs, k⟩ => ?_
  unfold bInt at k
  split at k
  · obtain ⟨x, rfl, r⟩ := reps1 rs
    rw [rep_int.mp r]
    exact .inl ⟨_, rfl, KO.here (R := RV G) k s (rep_int.mpr rfl)⟩
  · obtain ⟨x, rfl, r⟩ := reps1 rs
    rw [rep_bl.mp r]
    exact .inr ⟨_, rfl, KO.here (R := RV G) k s (rep_int.mpr rfl)⟩
  · exact k.elim
theorem ok_gcd : CallR X (.builtin "math.gcd") (rOL G bGcd) := by
  refine CallR.imp (cr_gcd (X := X)) fun xs H Q ⟨ι, S, vs, s, rs, k⟩ => ?_
  unfold bGcd at k
  split at k
  · obtain ⟨x, y, rfl, r, r'⟩ := reps2 rs
    rw [rep_int.mp r, rep_int.mp r']
    exact ⟨_, _, rfl, KO.here (R := RV G) k s (rep_int.mpr rfl)⟩
  · exact k.elim
theorem maxL_ge : ∀ (r : List Int) (m : Int), m ≤ maxL r m ∧ (∀ y, y ∈ r → y ≤ maxL r m)
  | [], m => ⟨Int.le_refl _, fun y h => by cases h⟩
  | x :: r, m => by
    obtain ⟨h1, h2⟩ := maxL_ge r (if m < x then x else m)
    have h3 : m ≤ (if m < x then x else m) ∧ x ≤ (if m < x then x else m) := by constructor <;> split <;> omega
    simp only [maxL]
    refine ⟨Int.le_trans h3.1 h1, fun y hy => ?_⟩
    rcases List.mem_cons.mp hy with e | e
    · subst e; exact Int.le_trans h3.2 h1
    · exact h2 y e
theorem maxL_mem : ∀ (r : List Int) (m : Int), maxL r m = m ∨ maxL r m ∈ r
  | [], m => .inl rfl
  | x :: r, m => by
    simp only [maxL]
    rcases maxL_mem r (if m < x then x else m) with h | h
    · rw [h]
      split
      · exact .inr List.mem_cons_self
      · exact .inl rfl
    · exact .inr (List.mem_cons_of_mem _ h)
theorem minL_le : ∀ (r : List Int) (m : Int), minL r m ≤ m ∧ (∀ y, y ∈ r → minL r m ≤ y)
  | [], m => ⟨Int.le_refl _, fun y h => by cases h⟩
  | x :: r, m => by
    obtain ⟨h1, h2⟩ := minL_le r (if x < m then x else m)
    have h3 : (if x < m then x else m) ≤ m ∧ (if x < m then x else m) ≤ x := by constructor <;> split <;> omega
    simp only [minL]
    refine ⟨Int.le_trans h1 h3.1, fun y hy => ?_⟩
    rcases List.mem_cons.mp hy with e | e
    · subst e; exact Int.le_trans h1 h3.2
    · exact h2 y e
theorem minL_mem : ∀ (r : List Int) (m : Int), minL r m = m ∨ minL r m ∈ r
  | [], m => .inl rfl
  | x :: r, m => by
    simp only [minL]
    rcases minL_mem r (if x < m then x else m) with h | h
    · rw [h]
      split
      · exact .inr List.mem_cons_self
      · exact .inl rfl
    · exact .inr (List.mem_cons_of_mem _ h)
theorem ok_max (hc : X.calm = true) (hK : X.K = G.K) : CallR X (.builtin "max") (rOL G bMax) := by
  refine CallR.imp ((call_max2 hc).or (cr_max hc)) fun xs H Q ⟨ι, S, vs, s, rs, k⟩ => ?_
  unfold bMax at k
  split at k
  · obtain ⟨x, y, rfl, r, r'⟩ := reps2 rs
    rw [rep_int.mp r, rep_int.mp r']
    exact .inl ⟨_, _, rfl, KO.here (R := RV G) k s (rep_int.mpr rfl)⟩
  · obtain ⟨x, rfl, r⟩ := reps1 rs
    split at k
    · rename_i ys e
      split at k
      · rename_i i t e2
        obtain ⟨a, ws, rfl, h1, h2⟩ := listD_ok s r e
        rw [ints_ok e2 h2] at h1
        refine .inr ⟨a, i :: t, rfl, by rw [hK]; exact h1, by simp, fun m hm hle => ?_⟩
        obtain ⟨g1, g2⟩ := maxL_ge t i
        have em : m = maxL t i := by
          have a1 : m ≤ maxL t i := by
            rcases List.mem_cons.mp hm with e' | e'
            · rw [e']; exact g1
            · exact g2 m e'
          have a2 : maxL t i ≤ m := hle _ (by
            rcases maxL_mem t i with z | z
            · rw [z]; exact List.mem_cons_self
            · exact List.mem_cons_of_mem _ z)
          omega
        subst em
        exact KO.here (R := RV G) k s (rep_int.mpr rfl)
      · exact k.elim
    · exact k.elim
  · exact k.elim
theorem ok_min (hc : X.calm = true) (hK : X.K = G.K) : CallR X (.builtin "min") (rOL G bMin) := by
  refine CallR.imp ((call_min2 hc).or (cr_min hc)) fun xs H Q ⟨ι, S, vs, s, rs, k⟩ => ?_
  unfold bMin at k
  split at k
  · obtain ⟨x, y, rfl, r, r'⟩ := reps2 rs
    rw [rep_int.mp r, rep_int.mp r']
    exact .inl ⟨_, _, rfl, KO.here (R := RV G) k s (rep_int.mpr rfl)⟩
  · obtain ⟨x, rfl, r⟩ := reps1 rs
    split at k
    · rename_i ys e
      split at k
      · rename_i i t e2
        obtain ⟨a, ws, rfl, h1, h2⟩ := listD_ok s r e
        rw [ints_ok e2 h2] at h1
        refine .inr ⟨a, i :: t, rfl, by rw [hK]; exact h1, by simp, fun m hm hle => ?_⟩
        obtain ⟨g1, g2⟩ := minL_le t i
        have em : m = minL t i := by
          have a1 : minL t i ≤ m := by
            rcases List.mem_cons.mp hm with e' | e'
            · rw [e']; exact g1
            · exact g2 m e'
          have a2 : m ≤ minL t i := hle _ (by
            rcases minL_mem t i with z | z
            · rw [z]; exact List.mem_cons_self
            · exact List.mem_cons_of_mem _ z)
          omega
        subst em
        exact KO.here (R := RV G) k s (rep_int.mpr rfl)
      · exact k.elim
    · exact k.elim
  · exact k.elim
theorem ok_sum (hc : X.calm = true) (hK : X.K = G.K) : CallR X (.builtin "sum") (rOL G bSum) := by
  refine CallR.imp (cr_sum hc) fun xs H Q ⟨ι, S, vs, s, rs, k⟩ => ?_
  unfold bSum at k
  split at k
  · obtain ⟨x, rfl, r⟩ := reps1 rs
    split at k
    · rename_i ys e
      split at k
      · rename_i ns e2
        obtain ⟨a, ws, rfl, h1, h2⟩ := listD_ok s r e
        rw [ints_ok e2 h2] at h1
        exact ⟨a, ns, rfl, by rw [hK]; exact h1, KO.here (R := RV G) k s (rep_int.mpr rfl)⟩
      · exact k.elim
    · exact k.elim
  · exact k.elim
theorem ok_all (hc : X.calm = true) (hK : X.K = G.K) : CallR X (.builtin "all") (rOL G bAll) := by
  refine CallR.imp (cr_all hc) fun xs H Q ⟨ι, S, vs, s, rs, k⟩ => ?_
  unfold bAll at k
  split at k
  · obtain ⟨x, rfl, r⟩ := reps1 rs
    split at k
    · rename_i ys e
      split at k
      · rename_i ns e2
        obtain ⟨a, ws, rfl, h1, h2⟩ := listD_ok s r e
        rw [bools_ok e2 h2] at h1
        exact ⟨a, ns, rfl, by rw [hK]; exact h1, KO.here (R := RV G) k s (rep_bl.mpr rfl)⟩
      · exact k.elim
    · exact k.elim
  · exact k.elim
theorem ok_any (hc : X.calm = true) (hK : X.K = G.K) : CallR X (.builtin "any") (rOL G bAny) := by
  refine CallR.imp (cr_any hc) fun xs H Q ⟨ι, S, vs, s, rs, k⟩ => ?_
  unfold bAny at k
  split at k
  · obtain ⟨x, rfl, r⟩ := reps1 rs
    split at k
    · rename_i ys e
      split at k
      · rename_i ns e2
        obtain ⟨a, ws, rfl, h1, h2⟩ := listD_ok s r e
        rw [bools_ok e2 h2] at h1
        exact ⟨a, ns, rfl, by rw [hK]; exact h1, KO.here (R := RV G) k s (rep_bl.mpr rfl)⟩
      · exact k.elim
    · exact k.elim
  · exact k.elim
theorem ok_tup (hK : X.K = G.K) : CallR X (.type "tuple") (rOL G bTup) := by
  refine CallR.imp (call_tuple_of (X := X)) fun xs H Q ⟨ι, S, vs, s, rs, k⟩ => ?_
  unfold bTup at k
  split at k
  · obtain ⟨x, rfl, r⟩ := reps1 rs
    split at k
    · rename_i t ys e
      obtain ⟨a, ws, rfl, h1, h2⟩ := seqD_ok s r e
      cases t with
      | true => exact ⟨a, ws, rfl, .inr ⟨by rw [hK]; exact h1, KO.here (R := RV G) k s (rep_tup.mpr ⟨a, ws, rfl, h1, h2⟩)⟩⟩
      | false => exact ⟨a, ws, rfl, .inl ⟨by rw [hK]; exact h1, KO.tup k s h2⟩⟩
    · exact k.elim
  · exact k.elim
theorem ok_list (hK : X.K = G.K) : CallR X (.type "list") (rOL G bList) := by
  refine CallR.imp (call_list_of (X := X)) fun xs H Q ⟨ι, S, vs, s, rs, k⟩ => ?_
  unfold bList at k
  split at k
  · obtain ⟨x, rfl, r⟩ := reps1 rs
    split at k
    · rename_i t ys e
      obtain ⟨a, ws, rfl, h1, h2⟩ := seqD_ok s r e
      refine ⟨a, ws, rfl, ?_, KO.lst k s h2⟩
      cases t with
      | true => exact .inr (by rw [hK]; exact h1)
      | false => exact .inl (by rw [hK]; exact h1)
    · exact k.elim
  · exact k.elim
/-- a method's call: the receiver ahead of the arguments -/
def rMt (G : Gc) (g : OL) : V → List V → Hp → VK → Prop := fun x xs H Q => rOL G g (x :: xs) H Q
theorem ok_app : MtR X "list.append" (rMt G mApp) := by
  refine MtR.imp (show MtR X "list.append" rAppend from mt_append) fun x xs H Q ⟨ι, S, vs, s, rs, k⟩ => ?_
  unfold mApp at k
  split at k
  · rename_i i v
    obtain ⟨y, z, ez, r, r'⟩ := reps2 rs
    cases ez
    split at k
    · rename_i ys e
      split at k
      · rename_i hz
        obtain ⟨rfl, hi⟩ := rep_lst.mp r
        obtain ⟨_, ws, h1, h2⟩ := s.get e
        refine ⟨ι i, ws, z, rfl, rfl, h1, by rw [h2.len, sizeLine_eq]; exact hz.1, ?_⟩
        have h3 : Reps G.K G.ga H ι i ys ws := by
          obtain ⟨us, q1, q2⟩ := s.cell i ys (cellL_some e)
          rw [h1] at q1
          cases q1
          exact q2
        have h4 : Rep G.K G.ga H ι i v z := Rep.low (fun _ _ h => h) (fun _ _ _ h => h) (fun _ _ => rfl) (Nat.le_refl _) v z hz.2 r'
        have s2 := s.set hi (h3.app (Reps.cons h4 .nil))
        refine k .non _ ι ?_ s2 (rep_non.mpr rfl)
        rw [List.length_set]
        exact ext_set h1 hi
      · exact k.elim
    · exact k.elim
  · exact k.elim
theorem joinP_eq (sep : List Nat) : ∀ ps : List (List Nat), joinP sep ps = TL.joinL sep ps
  | [] => rfl
  | [p] => rfl
  | p :: q :: r => by
    show p ++ (sep ++ joinP sep (q :: r)) = p ++ (sep ++ TL.joinL sep (q :: r))
    rw [joinP_eq sep (q :: r)]
theorem join_eq (sep : List Nat) (ps : List (List Nat)) : Txt.join (mkS sep) (ps.map mkS) = mkS (joinP sep ps) := by
  have h := TL.tl_join (mkS sep) (ps.map mkS)
  rw [joinP_eq]
  have e1 : (ps.map mkS).map TL.tl = ps := by
    rw [List.map_map]
    have : TL.tl ∘ mkS = id := by funext l; rfl
    rw [this, List.map_id]
  rw [e1] at h
  rw [TL.join_eq]
  exact TL.ext_tl h
theorem ok_join (hK : X.K = G.K) : MtR X "str.join" (rMt G mJoin) := by
  refine MtR.imp (mt_join (X := X)) fun x xs H Q ⟨ι, S, vs, s, rs, k⟩ => ?_
  unfold mJoin at k
  split at k
  · rename_i a v
    obtain ⟨y, z, ez, r, r'⟩ := reps2 rs
    cases ez
    split at k
    · rename_i t ys e
      split at k
      · rename_i ps e2
        split at k
        · rename_i hz
          obtain ⟨p, ws, rfl, h1, h2⟩ := seqD_ok s r' e
          have ew := strs_ok e2 h2
          subst ew
          refine ⟨mkS a, p, ps.map mkS, rep_str.mp r, rfl, ?_, ?_, ?_⟩
          · cases t with
            | true => exact .inr (by rw [hK]; exact h1)
            | false => exact .inl (by rw [hK]; exact h1)
          · rw [List.map_map, List.length_map]
            have e3 : ((fun x : Str => x.length) ∘ mkS) = fun l : List Nat => l.length := by
              funext l
              show l.toArray.size = l.length
              simp
            have e4 : (mkS a).length = a.length := by
              show a.toArray.size = a.length
              simp
            rw [e4]
            have e5 : ps.map ((fun x : Str => x.length) ∘ mkS) = ps.map (·.length) := by rw [e3]
            rw [e5]
            exact hz
          · rw [join_eq]
            exact KO.here (R := RV G) k s (rep_str.mpr rfl)
        · exact k.elim
      · exact k.elim
    · exact k.elim
  · exact k.elim
end
end Mi

set_option Elab.async false
set_option linter.all false
set_option maxRecDepth 100000
namespace Mi
open PySem PySem.Spec PyProof.Rows L2

/-! ### statements -/
def KS (G : Gc) (tk : Tks) (W : WX) (D : Ends) (H : Hp) (ι : Nat → Addr) (n : Nat) : RS → Prop
  | .nx env' S' => ∀ σ' H' ι', Ext H ι n H' ι' S'.length → SRel G H' ι' S' → ERel G tk H' ι' S'.length σ' env' → D.nx σ' H'
  | .ct env' S' => ∀ σ' H' ι', Ext H ι n H' ι' S'.length → SRel G H' ι' S' → ERel G tk H' ι' S'.length σ' env' → D.ct σ' H'
  | .bk env' S' => ∀ σ' H' ι', Ext H ι n H' ι' S'.length → SRel G H' ι' S' → ERel G tk H' ι' S'.length σ' env' → D.bk σ' H'
  | .rt v S' => ∀ x H' ι', Ext H ι n H' ι' S'.length → SRel G H' ι' S' → Rep G.K G.ga H' ι' S'.length v x → D.rt x H'
  | .exc c p env' S' => ∀ σ' H' ι' cls d, Ext H ι n H' ι' S'.length → SRel G H' ι' S' → ERel G tk H' ι' S'.length σ' env' → ExR G c p cls d → W cls d σ' H'
  | .err => False
section
variable {G : Gc} {tk : Tks} {W : WX} {D : Ends} {H H1 : Hp} {ι ι1 : Nat → Addr} {n n1 : Nat}
theorem KS.mono {r : RS} (h : KS G tk W D H ι n r) (e : Ext H ι n H1 ι1 n1) : KS G tk W D H1 ι1 n1 r := by
  cases r with
  | nx env S => exact fun σ' H' ι' e' s q => h σ' H' ι' (e.trans e') s q
  | ct env S => exact fun σ' H' ι' e' s q => h σ' H' ι' (e.trans e') s q
  | bk env S => exact fun σ' H' ι' e' s q => h σ' H' ι' (e.trans e') s q
  | rt v S => exact fun σ' H' ι' e' s q => h σ' H' ι' (e.trans e') s q
  | exc c p env S => exact fun σ' H' ι' cls d e' s q => h σ' H' ι' cls d (e.trans e') s q
  | err => exact h
theorem KS.bind {α γ : Type} {r : Res α} {env : Env} {σ : L2.St} {k : α → Sto → RS} {R1 : Hp → (Nat → Addr) → Nat → α → γ → Prop} (h : KS G tk W D H ι n (bndS r env k)) (rσ : ERel G tk H ι n σ env) :
    KE G (fun c d H => W c d σ H) H ι n r R1 (fun x H1 => ∃ v ι1 S1, Ext H ι n H1 ι1 S1.length ∧ SRel G H1 ι1 S1 ∧ R1 H1 ι1 S1.length v x ∧ ERel G tk H1 ι1 S1.length σ env ∧ KS G tk W D H1 ι1 S1.length (k v S1)) := by
  cases r with
  | ok v S' => exact fun x H' ι' e s q => ⟨v, ι', S', e, s, q, rσ.ext e, KS.mono h e⟩
  | exc c p S' => exact fun H' ι' cls d e s q => h σ H' ι' cls d e s (rσ.ext e) q
  | err => exact h
theorem KS.ends {D' : Ends} {r : RS} (h : KS G tk W D H ι n r) (hn : ∀ σ H, D.nx σ H → D'.nx σ H) (hr : ∀ x H, D.rt x H → D'.rt x H) (hb : ∀ σ H, D.bk σ H → D'.bk σ H) (hc : ∀ σ H, D.ct σ H → D'.ct σ H) : KS G tk W D' H ι n r := by
  cases r with
  | nx env S => exact fun σ' H' ι' e' s q => hn _ _ (h σ' H' ι' e' s q)
  | ct env S => exact fun σ' H' ι' e' s q => hc _ _ (h σ' H' ι' e' s q)
  | bk env S => exact fun σ' H' ι' e' s q => hb _ _ (h σ' H' ι' e' s q)
  | rt v S => exact fun σ' H' ι' e' s q => hr _ _ (h σ' H' ι' e' s q)
  | exc c p env S => exact h
  | err => exact h
end
def RdS (G : Gc) (tk : Tks) (cl : Cl) (W : WX) (m : MS) : TS := fun D σ H => ∃ ι env S, ERel G tk H ι S.length σ env ∧ SRel G H ι S ∧ KS G tk W D H ι S.length (m cl env S)

def sN : MS := fun _ env S => .nx env S
def sBk : MS := fun _ env S => .bk env S
def sCt : MS := fun _ env S => .ct env S
def sQ (a b : MS) : MS := fun cl env S => match a cl env S with
  | .nx env' S' => b cl env' S'
  | r => r
def sX (m : ME) : MS := fun cl env S => bndS (m cl env S) env fun _ S1 => .nx env S1
def sR (m : ME) : MS := fun cl env S => bndS (m cl env S) env fun v S1 => .rt v S1
def sRN : MS := fun _ _ S => .rt .non S
def sI (t : MB) (a b : MS) : MS := fun cl env S => bndS (t cl env S) env fun c S1 => match c with
  | true => a cl env S1
  | false => b cl env S1
def sS (i : Nat) (m : ME) : MS := fun cl env S => bndS (m cl env S) env fun v S1 => .nx (env.set i (.pv v)) S1
def sP2 (i j : Nat) (m : MA) : MS := fun cl env S => bndS (m cl env S) env fun vs S1 => match vs with
  | [v, w] => .nx ((env.set i (.pv v)).set j (.pv w)) S1
  | _ => .err
def sP3 (i j l : Nat) (m : MA) : MS := fun cl env S => bndS (m cl env S) env fun vs S1 => match vs with
  | [u, v, w] => .nx (((env.set i (.pv u)).set j (.pv v)).set l (.pv w)) S1
  | _ => .err
def sG (g : MG) (m : ME) : MS := fun cl env S => bndS (m cl env S) env fun v S1 => match g v env with
  | some env' => .nx env' S1
  | none => .err
def setP (o i v : PV) (S : Sto) : Option Sto := match o, i with
  | .lst a, .int k => match cellL S a with
    | some xs => match ixN xs.length k with
      | some j => if below a v = true then some (S.set a (.lst (xs.set j v))) else none
      | none => none
    | none => none
  | _, _ => none
def sA (o i e : ME) : MS := fun cl env S => bndS (e cl env S) env fun v S1 => bndS (o cl env S1) env fun a S2 => bndS (i cl env S2) env fun k S3 => match setP a k v S3 with
  | some S4 => .nx env S4
  | none => .err
def sRz (c : Nat) : MS := fun _ env S => .exc c none env S

section
variable {G : Gc} {tk : Tks} {cl : Cl} {W : WX} {X : Cx}
theorem rss_nil : PSs X [] (RdS G tk cl W sN) := PSs.imp pss_nil fun D σ H ⟨ι, env, S, r, s, k⟩ => k σ H ι .refl s r
theorem rs_pass {pos : Pos} : PS X (.Pass pos) (RdS G tk cl W sN) := PS.imp ps_pass fun D σ H ⟨ι, env, S, r, s, k⟩ => k σ H ι .refl s r
theorem rs_break {pos : Pos} : PS X (.Break pos) (RdS G tk cl W sBk) := PS.imp ps_break fun D σ H ⟨ι, env, S, r, s, k⟩ => k σ H ι .refl s r
theorem rs_cont {pos : Pos} : PS X (.Continue pos) (RdS G tk cl W sCt) := PS.imp ps_continue fun D σ H ⟨ι, env, S, r, s, k⟩ => k σ H ι .refl s r
theorem rs_doc {x j pos pos'} : PS X (.Expr (.Constant (.str x) j pos) pos') (RdS G tk cl W sN) := PS.imp ps_doc fun D σ H ⟨ι, env, S, r, s, k⟩ => k σ H ι .refl s r
theorem rss_cons {st : Stmt} {rest : List Stmt} {a b : MS} (h1 : PS X st (RdS G tk cl W a)) (h2 : PSs X rest (RdS G tk cl W b)) : PSs X (st :: rest) (RdS G tk cl W (sQ a b)) :=
  PSs.imp (pss_cons h1 h2) fun D σ H ⟨ι, env, S, r, s, k⟩ => by
    refine ⟨ι, env, S, r, s, ?_⟩
    simp only [sQ] at k
    cases e : a cl env S with
    | nx env' S' =>
      rw [e] at k
      exact fun σ' H' ι' e' s' r' => ⟨ι', env', S', r', s', k.mono e'⟩
    | ct env' S' => rw [e] at k; exact k
    | bk env' S' => rw [e] at k; exact k
    | rt v S' => rw [e] at k; exact k
    | exc c p env' S' => rw [e] at k; exact k
    | err => rw [e] at k; exact k
theorem rs_expr {e : Expr} {m : ME} {pos : Pos} (h : PE X e (RdE G tk cl W m)) (hs : swapsWith e none pos.line X.env = pure false) : PS X (.Expr e pos) (RdS G tk cl W (sX m)) :=
  PS.imp (ps_expr h hs) fun D σ H ⟨ι, env, S, r, s, k⟩ => ⟨ι, env, S, r, s, (KS.bind k r).imp fun x H1 ⟨v, ι1, S1, e1, s1, r1, rσ, k1⟩ => k1 σ H1 ι1 .refl s1 rσ⟩
theorem rs_ret {e : Expr} {m : ME} {pos : Pos} (h : PE X e (RdE G tk cl W m)) : PS X (.Return (some e) pos) (RdS G tk cl W (sR m)) :=
  PS.imp (ps_ret h) fun D σ H ⟨ι, env, S, r, s, k⟩ => ⟨ι, env, S, r, s, (KS.bind (R1 := RV G) k r).imp fun x H1 ⟨v, ι1, S1, e1, s1, r1, rσ, k1⟩ => k1 x H1 ι1 .refl s1 r1⟩
theorem rs_retN {pos : Pos} : PS X (.Return none pos) (RdS G tk cl W sRN) := PS.imp ps_retN fun D σ H ⟨ι, env, S, r, s, k⟩ => k .non H ι .refl s (rep_non.mpr rfl)
theorem rs_if {c : Expr} {a b : List Stmt} {t : MB} {ma mb : MS} {pos : Pos} (hc : PT X c (RdB G tk cl W t)) (ha : PSs X a (RdS G tk cl W ma)) (hb : PSs X b (RdS G tk cl W mb)) : PS X (.If c a b pos) (RdS G tk cl W (sI t ma mb)) :=
  PS.imp (ps_if hc ha hb) fun D σ H ⟨ι, env, S, r, s, k⟩ => ⟨ι, env, S, r, s, (KS.bind (R1 := RB) k r).imp fun d H1 ⟨v, ι1, S1, e1, s1, r1, rσ, k1⟩ => by
    subst r1
    cases v with
    | true => exact ⟨ι1, env, S1, rσ, s1, k1⟩
    | false => exact ⟨ι1, env, S1, rσ, s1, k1⟩⟩
theorem rs_set {i : Nat} {x : Str} {e : Expr} {m : ME} {pos pos' : Pos} (hN : X.N.Nodup) (hi : X.N[i]? = some x) (hx : Loc X.env.scope x) (he : PE X e (RdE G tk cl W m)) (hs : swapsWith e (some (.Name x pos')) pos.line X.env = pure false) (hf : X.fn x = true ∨ X.env.scope.names.lookup x = some .local) :
    PS X (.Assign [.Name x pos'] e pos) (RdS G tk cl W (sS i m)) :=
  PS.imp (ps_set hN hi hx he hs hf) fun D σ H ⟨ι, env, S, r, s, k⟩ => ⟨ι, env, S, r, s, (KS.bind (R1 := RV G) k r).imp fun y H1 ⟨v, ι1, S1, e1, s1, r1, rσ, k1⟩ => k1 _ H1 ι1 .refl s1 (rσ.set r1)⟩
theorem reps3 {K : PySem.W.Frag} {ga : Nat → Addr} {H : Hp} {ι : Nat → Addr} {n : Nat} {a b c : PV} {vs : List V} (h : Reps K ga H ι n [a, b, c] vs) : ∃ x y z, vs = [x, y, z] ∧ Rep K ga H ι n a x ∧ Rep K ga H ι n b y ∧ Rep K ga H ι n c z := by
  obtain ⟨x, r, rfl, h1, h⟩ := h.uncons
  obtain ⟨y, z, rfl, h2, h3⟩ := reps2 h
  exact ⟨x, y, z, rfl, h1, h2, h3⟩
theorem rs_par {i j : Nat} {x y : Str} {a b : Expr} {ma : MA} {px py pt pos : Pos} {kt k2 pt2} (hc : X.calm = true) (hN : X.N.Nodup) (hi : X.N[i]? = some x) (hj : X.N[j]? = some y) (hij : i ≠ j)
    (hx : X.env.scope.names.lookup x = some .local) (hy : X.env.scope.names.lookup y = some .local) (ha : PA X [a, b] (RdA G tk cl W ma))
    (hw : swappedStores [.Tuple [.Name x px, .Name y py] kt pt] (.Tuple [a, b] k2 pt2) X.env = pure (some [x, y])) :
    PS X (.Assign [.Tuple [.Name x px, .Name y py] kt pt] (.Tuple [a, b] k2 pt2) pos) (RdS G tk cl W (sP2 i j ma)) :=
  PS.imp (ps_par hc hN hi hj hij hx hy ha hw) fun D σ H ⟨ι, env, S, r, s, k⟩ => ⟨ι, env, S, r, s, (KS.bind (R1 := RVs G) k r).imp fun vs H1 ⟨v, ι1, S1, e1, s1, r1, rσ, k1⟩ => by
    split at k1
    · obtain ⟨u, w, rfl, q1, q2⟩ := reps2 r1
      exact ⟨u, w, rfl, k1 _ H1 ι1 .refl s1 ((rσ.set q1).set q2)⟩
    · exact k1.elim⟩
theorem set_par {o i e : Expr} {mo mi me : ME} {pos tpos : Pos} (ho : PE X o (RdE G tk cl W mo)) (hi : PE X i (RdE G tk cl W mi)) (he : PE X e (RdE G tk cl W me))
    (ha : ∀ v, assign (.Subscript o i tpos) X.env v = (do
      let ov ← holding [v] (eval o X.env)
      let iv ← holding [v, ov] (eval i X.env)
      standAt tpos
      holding [v, ov, iv] (setItem ov iv v)
      release [v, ov, iv] [])) (hs : swapsWithSole [.Subscript o i tpos] e pos.line X.env = pure false) (hw : swappedStores [.Subscript o i tpos] e X.env = pure none)
    (h1 : (assignEach [.Subscript o i tpos] X.env).map (·.2) = [assign (.Subscript o i tpos) X.env]) :
    PS X (.Assign [.Subscript o i tpos] e pos) (RdS G tk cl W (sA mo mi me)) :=
  PS.imp (ps_asg he (pg_sub ho hi set_list ha) hs hw h1) fun D σ H ⟨ι, env, S, r, s, k⟩ => ⟨ι, env, S, r, s, (KS.bind (R1 := RV G) k r).imp fun v H1 ⟨v', ι1, S1, e1, s1, r1, rσ1, k1⟩ =>
    ⟨ι1, env, S1, rσ1, s1, (KS.bind (R1 := RV G) k1 rσ1).imp fun o H2 ⟨o', ι2, S2, e2, s2, r2, rσ2, k2⟩ =>
    ⟨ι2, env, S2, rσ2, s2, (KS.bind (R1 := RV G) k2 rσ2).imp fun i H3 ⟨i', ι3, S3, e3, s3, r3, rσ3, k3⟩ => by
      have q1 : Rep G.K G.ga H3 ι3 S3.length v' v := Rep.ext (e2.trans e3) _ _ r1
      have q2 : Rep G.K G.ga H3 ι3 S3.length o' o := Rep.ext e3 _ _ r2
      have q3 : Rep G.K G.ga H3 ι3 S3.length i' i := r3
      obtain ⟨a, rfl⟩ : ∃ a, o' = .lst a := by cases o' <;> first | exact ⟨_, rfl⟩ | exact k3.elim
      obtain ⟨z, rfl⟩ : ∃ z, i' = .int z := by cases i' <;> first | exact ⟨_, rfl⟩ | exact k3.elim
      obtain ⟨rfl, ha'⟩ := rep_lst.mp q2
      have ez : i = .int z := by simpa only [Rep] using q3
      subst ez
      simp only [setP] at k3
      cases ec : cellL S3 a with
      | none => rw [ec] at k3; exact k3.elim
      | some xs =>
        rw [ec] at k3
        cases ei : ixN xs.length z with
        | none => simp only [ei] at k3; exact k3.elim
        | some j =>
          simp only [ei] at k3
          by_cases hb : below a v' = true
          · rw [if_pos hb] at k3
            obtain ⟨_, vs, h1, h2⟩ := s3.get ec
            have h3 : Reps G.K G.ga H3 ι3 a xs vs := by
              obtain ⟨us, q1, q2⟩ := s3.cell a xs (cellL_some ec)
              rw [h1] at q1
              cases q1
              exact q2
            have h4 : Rep G.K G.ga H3 ι3 a v' v := Rep.low (fun _ _ h => h) (fun _ _ _ h => h) (fun _ _ => rfl) (Nat.le_refl _) v' v hb q1
            have s4 := s3.set ha' (Reps.set h4 j h3)
            have e4 := ext_set (n := S3.length) (ws := vs.set j v) h1 ha'
            refine ⟨ι3 a, vs, z, j, rfl, rfl, h1, by rw [h2.len]; exact ei, k3 _ _ ι3 ?_ s4 ?_⟩
            · rw [List.length_set]; exact e4
            · rw [List.length_set]; exact rσ3.ext e4
          · rw [if_neg hb] at k3; exact k3.elim⟩⟩⟩

/-! ### targets -/
theorem wipe_set {σ : L2.St} {i : Nat} {u : Option V} : ∀ {vs : List Nat}, i ∈ vs → wipe (σ.set i u) vs = wipe σ vs := by
  intro vs h
  apply List.ext_getElem?
  intro j
  by_cases hj : j ∈ vs
  · have e : ∀ τ : L2.St, j < τ.length → (wipe τ vs)[j]? = some none := by
      intro τ hl
      cases q : (wipe τ vs)[j]? with
      | none =>
        rw [List.getElem?_eq_none_iff, wipe_length] at q
        omega
      | some o =>
        cases o with
        | none => rfl
        | some x => exact absurd hj (wipe_some q).2
    by_cases hl : j < σ.length
    · rw [e _ (by simpa using hl), e _ hl]
    · rw [List.getElem?_eq_none (by rw [wipe_length]; simpa using hl), List.getElem?_eq_none (by rw [wipe_length]; omega)]
  · rw [wipe_out hj, wipe_out hj, List.getElem?_set_ne (fun e => hj (by rw [← e]; exact h))]
abbrev MGs := List PV → Env → Option Env
structure GOk (G : Gc) (tk : Tks) (is : List Nat) (t : TG) (g : MG) : Prop where
  run : ∀ {v x σ H ι n env env' Q}, ERel G tk H ι n σ env → Rep G.K G.ga H ι n v x → g v env = some env' → (∀ σ', ERel G tk H ι n σ' env' → (∀ vs, (∀ i ∈ is, i ∈ vs) → wipe σ' vs = wipe σ vs) → Q σ' H) → t x σ H Q
structure GsOk (G : Gc) (tk : Tks) (is : List Nat) (k : Nat) (t : TGs) (g : MGs) : Prop where
  len : ∀ {v env env'}, g v env = some env' → v.length = k
  run : ∀ {v x σ H ι n env env' Q}, ERel G tk H ι n σ env → Reps G.K G.ga H ι n v x → g v env = some env' → (∀ σ', ERel G tk H ι n σ' env' → (∀ vs, (∀ i ∈ is, i ∈ vs) → wipe σ' vs = wipe σ vs) → Q σ' H) → t x σ H Q
def gV (i : Nat) : MG := fun v env => some (env.set i (.pv v))
def gN : MGs := fun xs env => match xs with
  | [] => some env
  | _ => none
def gC (a : MG) (r : MGs) : MGs := fun xs env => match xs with
  | x :: xs => match a x env with
    | some env' => r xs env'
    | none => none
  | [] => none
def gT (r : MGs) : MG := fun v env => match v with
  | .tup xs => r xs env
  | _ => none
theorem g_v {i : Nat} : GOk G tk [i] (gName i) (gV i) := ⟨fun r rv e f => by
  cases e
  exact f _ (r.set rv) fun vs h => wipe_set (h i (by simp))⟩
theorem g_n : GsOk G tk [] 0 gNil gN := ⟨fun {v env env'} e => by
  cases v with
  | cons a l => cases e
  | nil => rfl, fun {v x σ H ι n env env' Q} r rv e f => by
  cases v with
  | cons a l => cases e
  | nil =>
    cases e
    exact ⟨rv.of_nil, f _ r fun vs _ => rfl⟩⟩
theorem g_c {is js : List Nat} {k : Nat} {t : TG} {u : TGs} {a : MG} {b : MGs} (h1 : GOk G tk is t a) (h2 : GsOk G tk js k u b) : GsOk G tk (is ++ js) (k + 1) (gCons t u) (gC a b) := ⟨fun {v env env'} e => by
  cases v with
  | nil => cases e
  | cons y ys =>
    simp only [gC] at e
    split at e
    · rw [List.length_cons, h2.len e]
    · exact (nomatch e), fun {v x σ H ι n env env' Q} r rv e f => by
  cases v with
  | nil => cases e
  | cons y ys =>
    simp only [gC] at e
    cases e1 : a y env with
    | none => rw [e1] at e; cases e
    | some env1 =>
      rw [e1] at e
      obtain ⟨z, zs, rfl, q1, q2⟩ := rv.uncons
      exact ⟨z, zs, rfl, h1.run r q1 e1 fun σ1 r1 w1 => h2.run r1 q2 e fun σ2 r2 w2 => f σ2 r2 fun vs h => by
        rw [w2 vs (fun i hi => h i (List.mem_append_right _ hi)), w1 vs fun i hi => h i (List.mem_append_left _ hi)]⟩⟩
theorem g_t {is : List Nat} {k : Nat} {u : TGs} {b : MGs} (h : GsOk G tk is k u b) : GOk G tk is (gTup G.K k u) (gT b) := ⟨fun {v x σ H ι n env env' Q} r rv e f => by
  cases v <;> try (cases e; done)
  rename_i xs
  obtain ⟨a, vs, rfl, hq, hr⟩ := rep_tup.mp rv
  exact ⟨a, vs, rfl, hq, by rw [hr.len, h.len e], h.run r hr e f⟩⟩
theorem rs_asg {tg e : Expr} {m : ME} {pos : Pos} {is : List Nat} {t : TG} {g : MG} (he : PE X e (RdE G tk cl W m)) (hg : PG X tg t) (gg : GOk G tk is t g) (hs : swapsWithSole [tg] e pos.line X.env = pure false) (hw : swappedStores [tg] e X.env = pure none)
    (h1 : (assignEach [tg] X.env).map (·.2) = [assign tg X.env]) : PS X (.Assign [tg] e pos) (RdS G tk cl W (sG g m)) :=
  PS.imp (ps_asg he hg hs hw h1) fun D σ H ⟨ι, env, S, r, s, k⟩ => ⟨ι, env, S, r, s, (KS.bind (R1 := RV G) k r).imp fun y H1 ⟨v, ι1, S1, e1, s1, r1, rσ, k1⟩ => by
    cases e : g v env with
    | none => rw [e] at k1; exact k1.elim
    | some env' =>
      rw [e] at k1
      exact gg.run rσ r1 e fun σ' r' _ => k1 σ' H1 ι1 .refl s1 r'⟩
end
end Mi

set_option Elab.async false
set_option linter.all false
set_option maxRecDepth 100000
namespace Mi
open PySem PySem.Spec PyProof.Rows L2

/-! ### what a loop walks -/
inductive Src where
  | im (xs : List PV) | lv (n : Nat) | en (s : Src) | zp (s t : Src)
def nthS : Src → Nat → Sto → Option (Option PV)
  | .im xs, i, _ => some xs[i]?
  | .lv n, i, S => (cellL S n).map fun xs => xs[i]?
  | .en s, i, S => (nthS s i S).map fun o => o.map fun x => .tup [.int (i : Nat), x]
  | .zp s t, i, S => match nthS s i S, nthS t i S with
    | some (some x), some (some y) => some (some (.tup [x, y]))
    | some none, some _ => some none
    | some (some _), some none => some none
    | _, _ => none
def lenS : Src → Sto → Nat
  | .im xs, _ => xs.length
  | .lv n, S => match cellL S n with
    | some xs => xs.length
    | none => 0
  | .en s, S => lenS s S
  | .zp s t, S => min (lenS s S) (lenS t S)
structure ItR (G : Gc) (J : It) (src : Src) (H : Hp) (ι : Nat → Addr) (n : Nat) : Prop where
  stop : ∀ i H' ι' S', Ext H ι n H' ι' S'.length → SRel G H' ι' S' → nthS src i S' = some none → J.stop i H'
  go : ∀ i H' ι' S' x, Ext H ι n H' ι' S'.length → SRel G H' ι' S' → nthS src i S' = some (some x) → J.go i H' ∧ ∀ u H'', J.yld i H' u H'' → Ext H' ι' S'.length H'' ι' S'.length ∧ SRel G H'' ι' S' ∧ Rep G.K G.ga H'' ι' S'.length x u
theorem ItR.ext {G : Gc} {J : It} {src : Src} {H H1 : Hp} {ι ι1 : Nat → Addr} {n n1 : Nat} (h : ItR G J src H ι n) (e : Ext H ι n H1 ι1 n1) : ItR G J src H1 ι1 n1 :=
  ⟨fun i H' ι' S' e' => h.stop i H' ι' S' (e.trans e'), fun i H' ι' S' x e' => h.go i H' ι' S' x (e.trans e')⟩
abbrev RI (G : Gc) : Hp → (Nat → Addr) → Nat → Src → It → Prop := fun H ι n src J => ItR G J src H ι n
abbrev MI := Cl → Env → Sto → Res Src
def RdI (G : Gc) (tk : Tks) (cl : Cl) (W : WX) (m : MI) : TI := fun σ H R => ∃ ι env S, ERel G tk H ι S.length σ env ∧ SRel G H ι S ∧ KE G (fun c d H => W c d σ H) H ι S.length (m cl env S) (RI G) R
theorem PI.imp {X : Cx} {tg e : Expr} {t t' : TI} (h : PI X tg e t) (f : ∀ σ H Q, t' σ H Q → t σ H Q) : PI X tg e t' := ⟨fun pins s σ H R I q => h.run pins s σ H R I (f σ H R q)⟩

def iAny (K : PySem.W.Frag) (tl : TE) : TI := fun σ H R => tl σ H fun x H1 => (∃ a, x = .ref a ∧ (∃ xs, SqL K H1 a xs) ∧ R (Itl K a) H1) ∨ (∃ a, x = .ref a ∧ (∃ xs, SqT K H1 a xs) ∧ R (Itt K a) H1) ∨ ∃ y, x = .str y ∧ R (Its y) H1
theorem pi_any {X : Cx} {tg l : Expr} {tl : TE} (hl : PE X l tl) : PI X tg l (iAny X.K tl) := by
  refine ⟨fun pins s σ H R I h => ?_⟩
  refine thn (hl.run pins s σ H _ I h) fun v s1 ⟨x, H1, I1, r1, q1⟩ => ?_
  rcases q1 with ⟨a, e, ⟨xs, hq⟩, q⟩ | ⟨a, e, ⟨xs, hq⟩, q⟩ | ⟨y, e, q⟩
  · subst e
    cases r1
    obtain ⟨its, rv, p, hz⟩ := I1.list hq
    exact wpAny_pyIter_list p.isList (pi_one (tk := s1.toks) I1 _ (turn_list a _) ⟨_, Heap.get?_push_size _ rfl, rfl, rfl⟩ q)
  · subst e
    cases r1
    obtain ⟨its, rv, p, hz⟩ := I1.tuple hq
    exact wpAny_pyIter_tuple (show s1.heap.IsTuple a its.toArray from p) (pi_one (tk := s1.toks) I1 _ (turn_tuple a _) ⟨_, Heap.get?_push_size _ rfl, rfl, rfl⟩ q)
  · subst e
    obtain ⟨t, rfl⟩ := r1
    cases ha : y.cps.all (· < 128)
    · exact wpAny_pyIter_wide ha (pi_one (tk := s1.toks) I1 _ (turn_str _ y t "str_iterator" (.inr rfl)) ⟨_, Heap.get?_push_size _ rfl, rfl, rfl⟩ q)
    · exact wpAny_pyIter_ascii ha (pi_one (tk := s1.toks) I1 _ (turn_str _ y t "str_ascii_iterator" (.inl rfl)) ⟨_, Heap.get?_push_size _ rfl, rfl, rfl⟩ q)

section
variable {G : Gc} {H : Hp} {ι : Nat → Addr} {n : Nat}
theorem sql_inj {K : PySem.W.Frag} {H : Hp} {a : Addr} {xs ys : List V} (h : SqL K H a xs) (hq : H a = some (.lst ys)) : xs = ys ∨ ∃ o, K.lookup a = some o := by
  rcases h with (h | ⟨o, h⟩) | ⟨o, its, m, h, _⟩
  · rw [hq] at h; cases h; exact .inl rfl
  · rw [hq] at h; cases h
  · exact .inr ⟨o, h⟩
end

/-- the abstract lists that can be read at an address are one -/
def iRngL (i c : Int) (n : Nat) : List PV := (List.range n).map fun (j : Nat) => .int (i + j * c)

/-! ### a loop -/
def forN (cl : Cl) (g : MG) (b : MS) (src : Src) : Nat → Nat → Env → Sto → RS
  | 0, _, _, _ => .err
  | k + 1, i, env, S => match nthS src i S with
    | some none => .nx env S
    | some (some x) => match g x env with
      | some env1 => match b cl env1 S with
        | .nx e S' => forN cl g b src k (i + 1) e S'
        | .ct e S' => forN cl g b src k (i + 1) e S'
        | .bk e S' => .nx e S'
        | r => r
      | none => .err
    | none => .err
def forL (cl : Cl) (g : MG) (b : MS) : List PV → Env → Sto → RS
  | [], env, S => .nx env S
  | x :: xs, env, S => match g x env with
    | some env1 => match b cl env1 S with
      | .nx e S' => forL cl g b xs e S'
      | .ct e S' => forL cl g b xs e S'
      | .bk e S' => .nx e S'
      | r => r
    | none => .err
theorem forL_eq {cl : Cl} {g : MG} {b : MS} {ys : List PV} : ∀ (xs : List PV) (i : Nat) (env : Env) (S : Sto), ys.drop i = xs → forL cl g b xs env S = forN cl g b (.im ys) (xs.length + 1) i env S
  | [], i, env, S, h => by
    have e : ys[i]? = none := List.getElem?_eq_none (List.drop_eq_nil_iff.mp h)
    simp only [forL, forN, List.length_nil, nthS, e]
  | x :: xs, i, env, S, h => by
    have e : ys[i]? = some x := by
      have := congrArg (·[0]?) h
      simpa using this
    have h' : ys.drop (i + 1) = xs := by
      have := congrArg (List.drop 1) h
      simpa [Nat.add_comm] using this
    rw [List.length_cons]
    simp only [forL]
    rw [forN]
    simp only [nthS, e]
    cases g x env with
    | none => rfl
    | some env1 =>
      simp only
      cases b cl env1 S with
      | nx e S' => exact forL_eq xs (i + 1) e S' h'
      | ct e S' => exact forL_eq xs (i + 1) e S' h'
      | _ => rfl
def sFo (g : MG) (mi : MI) (b : MS) : MS := fun cl env S => bndS (mi cl env S) env fun src S1 => match src with
  | .im xs => forL cl g b xs env S1
  | src => forN cl g b src (lenS src S1 + 1) 0 env S1
theorem sFo_eq {g : MG} {mi : MI} {b : MS} {cl : Cl} {env : Env} {S : Sto} : sFo g mi b cl env S = bndS (mi cl env S) env fun src S1 => forN cl g b src (lenS src S1 + 1) 0 env S1 := by
  unfold sFo bndS
  cases mi cl env S with
  | ok src S1 =>
    cases src with
    | im xs => exact forL_eq xs 0 env S1 rfl
    | _ => rfl
  | _ => rfl
def whN (cl : Cl) (t : MB) (b : MS) : Nat → Env → Sto → RS
  | 0, _, _ => .err
  | k + 1, env, S => bndS (t cl env S) env fun c S1 => match c with
    | false => .nx env S1
    | true => match b cl env S1 with
      | .nx e S' => whN cl t b k e S'
      | .ct e S' => whN cl t b k e S'
      | .bk e S' => .nx e S'
      | r => r
def sWh (t : MB) (b : MS) : MS := fun cl env S => whN cl t b 1048576 env S
section
variable {G : Gc} {tk : Tks} {cl : Cl} {W : WX} {X : Cx}
theorem rs_for {tg iter : Expr} {body : List Stmt} {mi : MI} {t : TG} {g : MG} {b : MS} {is : List Nat} {pos : Pos} (hp : PassesOwn (model X.prog X.w) X.A X.env X.xe) (hc : X.calm = true) (hi : PI X tg iter (RdI G tk cl W mi)) (hg : PG X tg t) (gg : GOk G tk is t g)
    (hb : PSs X body (RdS G tk cl W b)) (hs : ∀ x, foldedSetIterable iter X.env x = pure x) : PS X (.For tg iter body [] pos) (RdS G tk cl W (sFo g mi b)) :=
  PS.imp (ps_for hp hc hi hg hb hs) fun D σ H ⟨ι, env, S, r, s, k⟩ => by
    rw [sFo_eq] at k
    refine ⟨ι, env, S, r, s, (KS.bind (R1 := RI G) k r).imp fun J H1 ⟨src, ι1, S1, e1, s1, r1, rσ, k1⟩ => ?_⟩
    refine ⟨fun i m σ H => ∃ ι env S, ERel G tk H ι S.length σ env ∧ SRel G H ι S ∧ ItR G J src H ι S.length ∧ KS G tk W D H ι S.length (forN cl g b src m i env S), ⟨_, ι1, env, S1, rσ, s1, r1, k1⟩, ?_⟩
    rintro i m σ H ⟨ι, env, S, r, s, it, k⟩
    cases m with
    | zero => exact k.elim
    | succ m =>
      rw [forN] at k
      cases en : nthS src i S with
      | none => rw [en] at k; exact k.elim
      | some o =>
        rw [en] at k
        cases o with
        | none => exact .inl ⟨it.stop i H ι S .refl s en, k σ H ι .refl s r⟩
        | some x =>
          obtain ⟨g1, g2⟩ := it.go i H ι S x .refl s en
          refine .inr ⟨g1, fun σ H => ∃ ι env S, ERel G tk H ι S.length σ env ∧ SRel G H ι S ∧ ItR G J src H ι S.length ∧ KS G tk W D H ι S.length (forN cl g b src m (i + 1) env S), fun σ' H' h => ⟨m, Nat.lt_succ_self _, h⟩, fun u H' y => ?_⟩
          obtain ⟨e2, s2, r2⟩ := g2 u H' y
          dsimp only at k
          cases eg : g x env with
          | none => rw [eg] at k; exact k.elim
          | some env1 =>
            rw [eg] at k
            dsimp only at k
            refine gg.run (r.ext e2) r2 eg fun σ3 r3 _ => ⟨ι, env1, S, r3, s2, ?_⟩
            have k2 := KS.mono k e2
            have it2 := it.ext e2
            cases eb : b cl env1 S with
            | nx env' S' => rw [eb] at k2; exact fun σ' H' ι' e' s' r' => ⟨ι', env', S', r', s', it2.ext e', k2.mono e'⟩
            | ct env' S' => rw [eb] at k2; exact fun σ' H' ι' e' s' r' => ⟨ι', env', S', r', s', it2.ext e', k2.mono e'⟩
            | bk env' S' => rw [eb] at k2; exact k2
            | rt v S' => rw [eb] at k2; exact k2
            | exc c p env' S' => rw [eb] at k2; exact k2
            | err => rw [eb] at k2; exact k2
theorem rs_while {c : Expr} {body : List Stmt} {t : MB} {b : MS} {pos : Pos} (hp : PassesOwn (model X.prog X.w) X.A X.env X.xe) (hc : PT X c (RdB G tk cl W t)) (hb : PSs X body (RdS G tk cl W b)) : PS X (.While c body [] pos) (RdS G tk cl W (sWh t b)) :=
  PS.imp (ps_while hp hc hb) fun D σ H ⟨ι, env, S, r, s, k⟩ => by
    refine ⟨fun m σ H => ∃ ι env S, ERel G tk H ι S.length σ env ∧ SRel G H ι S ∧ KS G tk W D H ι S.length (whN cl t b m env S), ⟨_, ι, env, S, r, s, k⟩, ?_⟩
    rintro m σ H ⟨ι, env, S, r, s, k⟩
    cases m with
    | zero => exact k.elim
    | succ m =>
      rw [whN] at k
      refine ⟨ι, env, S, r, s, (KS.bind (R1 := RB) k r).imp fun d H1 ⟨v, ι1, S1, e1, s1, r1, rσ, k1⟩ => ?_⟩
      subst r1
      cases v with
      | false => exact k1 σ H1 ι1 .refl s1 rσ
      | true =>
        rw [if_pos rfl]
        refine ⟨fun σ H => ∃ ι env S, ERel G tk H ι S.length σ env ∧ SRel G H ι S ∧ KS G tk W D H ι S.length (whN cl t b m env S), fun σ' H' h => ⟨m, Nat.lt_succ_self _, h⟩, ι1, env, S1, rσ, s1, ?_⟩
        dsimp only at k1
        cases eb : b cl env S1 with
        | nx env' S' => rw [eb] at k1; exact fun σ' H' ι' e' s' r' => ⟨ι', env', S', r', s', k1.mono e'⟩
        | ct env' S' => rw [eb] at k1; exact fun σ' H' ι' e' s' r' => ⟨ι', env', S', r', s', k1.mono e'⟩
        | bk env' S' => rw [eb] at k1; exact k1
        | rt v S' => rw [eb] at k1; exact k1
        | exc c p env' S' => rw [eb] at k1; exact k1
        | err => rw [eb] at k1; exact k1
end
end Mi

set_option Elab.async false
set_option linter.all false
set_option maxRecDepth 100000
namespace Mi
open PySem PySem.Spec PyProof.Rows L2
open Sem (wp)

/-! ### enumerate over a tuple -/
set_option maxHeartbeats 1000000 in
theorem meets_enT (t : Addr) (items : Array Value) :
    Meets (Builtin.«enumerate.__new__» ⟨[.type "enumerate", .ref t], []⟩) (fun _ R s => s.heap.IsTuple t items ∧
      R (.ok (.ret (.ref (s.heap.push { cls := .type "tuple_iterator", data := .fields #[.ref t, .int 0 0] }).objs.size)))
        { s with heap := (s.heap.push { cls := .type "tuple_iterator", data := .fields #[.ref t, .int 0 0] }).push { cls := .type "enumerate", data := .fields #[.none, .bool false, .ref s.heap.objs.size, rawInt 0, .none, .none] } }) :=
  .of_wp fun prog w A R s h => by
    obtain ⟨hp, g, d, tk, os⟩ := s; obtain ⟨h1, h⟩ := h
    have hsub := sub_enumerate
    have B := begins_tuple t items
    have q1 : ∀ {A' : Around} {E : Value → Shared → Prop} {Q : Value → Shared → Prop}, Q (.ref hp.objs.size) ⟨hp.push { cls := .type "tuple_iterator", data := .fields #[.ref t, .int 0 0] }, g, d, tk, os⟩ → wpAny (model prog w) A' (pyIter (.ref t)) Q E ⟨hp, g, d, tk, os⟩ :=
      fun q => B.iter prog w _ _ ⟨hp, g, d, tk, os⟩ _ h1 q
    wp_walk using q1
    refine wpAny_stack_any fun st => wpAny_pure ?_
    split
    · rename_i c _ _ _ _ _
      cases (c == Value.type "enumerate")
      · wp_walk using q1
        exact ⟨_, rfl, h⟩
      · wp_walk using q1
        exact ⟨_, rfl, h⟩
    · wp_walk using q1
      exact ⟨_, rfl, h⟩
section
variable {prog : Program} {w : World} {A : Around} {E : Value → Shared → Prop} {s : Shared}
theorem call_enT {t : Addr} {items : Array Value} {Q : Value → Shared → Prop} (hT : s.heap.IsTuple t items)
    (h : ∀ h', IsEnum h' (s.heap.objs.size + 1) s.heap.objs.size 0 .none → h'.IsTupleIter s.heap.objs.size t 0 → h'.objs.size = s.heap.objs.size + 2 →
      (∀ b o, s.heap.get? b = some o → h'.get? b = some o) → Q (.ref (s.heap.objs.size + 1)) { s with heap := h' }) :
    wpAny (model prog w) A (call (.type "enumerate") [.ref t]) Q E s := by
  refine callType_new F.called_enumerate (by decide) (F.typeCall_enumerate_1 _) (F.newCall_enumerate_1 _) (fun obj => F.args_object_init_2 obj _) F.entry_enumerate_new
    (meets_enT t items) ⟨hT, ?_⟩
  have hz : (s.heap.push { cls := .type "tuple_iterator", data := .fields #[.ref t, .int 0 0] }).objs.size = s.heap.objs.size + 1 := Heap.size_push ..
  show _ ∧ _
  rw [hz]
  have he : IsEnum ((s.heap.push { cls := .type "tuple_iterator", data := .fields #[.ref t, .int 0 0] }).push
      { cls := .type "enumerate", data := .fields #[.none, .bool false, .ref s.heap.objs.size, rawInt 0, .none, .none] }) (s.heap.objs.size + 1) s.heap.objs.size 0 .none := by
    have := Heap.get?_push_size (s.heap.push { cls := .type "tuple_iterator", data := .fields #[.ref t, .int 0 0] })
      (o := { cls := .type "enumerate", data := .fields #[.none, .bool false, .ref s.heap.objs.size, rawInt 0, .none, .none] }) rfl
    rw [hz] at this; exact this
  refine ⟨⟨_, he, rfl⟩, h _ he ⟨_, Heap.get?_push_of_some _ (Heap.get?_push_size _ rfl), rfl, rfl⟩ (by rw [Heap.size_push, hz]) fun b o x => Heap.get?_push_of_some _ (Heap.get?_push_of_some _ x)⟩
end
def IteT (K : PySem.W.Frag) (a : Addr) : It :=
  ⟨fun i H => ∃ (xs : List V) (x : V), SqT K H a xs ∧ xs[i]? = some x, fun i H v H' => ∃ T x, v = .ref T ∧ H T = none ∧ H' = upd H T (.tup [.int (i : Nat), x]) ∧ ∀ xs, SqT K H a xs → xs[i]? = some x, fun i H => ∃ xs : List V, SqT K H a xs ∧ xs.length ≤ i⟩
theorem turn_enT {P : Program} {w : World} {K : PySem.W.Frag} {elts : List Expr} {kk : Nat} {tpos : Pos} (a e it : Addr) :
    Turn P w K (.Tuple elts kk tpos) (IteT K a) [e, it] e (fun i h => (∃ old, IsEnum h e it ((i : Nat) : Int) old) ∧ h.IsTupleIter it a i ∧ e ≠ it) where
  mem := by simp
  obj := fun i h st b hb => by
    obtain ⟨⟨old, he⟩, ⟨o, ho, hc, hd⟩, _⟩ := st
    have e' : b = e ∨ b = it := by simpa using hb
    rcases e' with z | z
    · rw [z]; exact ⟨_, he, fun v q => nomatch q⟩
    · rw [z]; exact ⟨o, ho, fun v q => by rw [hd] at q; cases q⟩
  keep := fun i h h' st k => let ⟨⟨old, he⟩, hi, hne⟩ := st; ⟨⟨old, k e (by simp) _ he⟩, hi.at fun o q => k it (by simp) o q, hne⟩
  item := by
    intro X hP hw hK hc i pins s σ H E I hf st hg
    subst hP hw hK
    obtain ⟨⟨old, he⟩, hit, hne⟩ := st
    obtain ⟨xs, x, hq, hx⟩ := hg
    obtain ⟨its, rv, p, hz⟩ := I.tuple hq
    obtain ⟨u, hu, ru⟩ := rv.get hx
    have hel : e < s.heap.objs.size := Heap.lt_size he
    have hil : it < s.heap.objs.size := by obtain ⟨_, q, _⟩ := hit; exact Heap.lt_size q
    have pT : s.heap.IsTuple a its.toArray := p
    have hue : its.toArray[i]? = some u := by simpa using hu
    have hlt : i < its.toArray.size := by
      have := (Array.getElem?_eq_some_iff.mp hue).1
      exact this
    have hat : a ≠ it := by
      intro z
      subst z
      obtain ⟨o1, e1, c1, d1⟩ := hit
      obtain ⟨o2, e2, c2, d2⟩ := pT
      rw [e1] at e2; cases e2
      rw [c1] at c2; injection c2 with q; exact absurd q (by decide)
    have hae : e ≠ a := by
      intro z
      subst z
      obtain ⟨o2, e2, c2, d2⟩ := pT
      have he' := he
      unfold IsEnum at he'
      rw [he'] at e2; cases e2
      injection c2 with q; exact absurd q (by decide)
    refine wpAny_pyNext_enum_itemD (Draws.tuple (A := X.A.in1) (I.ok.hd hc) it a hat its.toArray) he ⟨hit, pT⟩ hlt hne (by simp [hne, hae]) fun x' h' tk hP ho hs' hT hsz hk => ?_
    rw [hue] at hP
    cases hP
    obtain ⟨hit', pT'⟩ := hs'
    refine ⟨_, rfl, wpAny_letOwnedTupleGo_enum (s := { s with heap := h', toks := tk + 1 }) ho fun h'' he' sb => ?_⟩
    have hT2 : h''.get? s.heap.objs.size = some { cls := .type "tuple", data := .seq #[.int i tk, u] } := (sb.2 _ (Nat.ne_of_gt hel)).trans hT
    have new : ObjOk X.prog X.w (upd H s.heap.objs.size (.tup [.int (i : Nat), x])) h'' s.heap.objs.size (.tup [.int (i : Nat), x]) :=
      ⟨by show 2 ≤ sizeLine; decide, [.int i tk, u], .cons ⟨_, rfl⟩ (.cons ru .nil), ⟨_, hT2, rfl, _, rfl⟩⟩
    have I1 : Inv X pins σ (upd H s.heap.objs.size (.tup [.int (i : Nat), x])) { s with heap := h'', toks := tk + 1 } :=
      I.turnedNew (ch := [e, it]) (fun b ob hb q => (sb.2 b (fun z => hb (by simp [z]))).trans (hk b ob (fun z => hb (by simp [z])) (fun z => hb (by simp [z])) q)) hf (Nat.le_refl _) new
    refine ⟨.ref s.heap.objs.size, _, I1, rfl, ⟨_, x, rfl, I.hok.fresh (Nat.le_refl _), rfl, fun ys hy => by rw [I.tuple_inj hy hq]; exact hx⟩, ⟨⟨u, ?_⟩, hit'.at fun o q => (sb.2 it (Ne.symm hne)).trans q, hne⟩, fun b hb => ?_⟩
    · have e1 : ((i + 1 : Nat) : Int) = (i : Int) + 1 := by omega
      rw [e1]; exact he'
    · have hb' : b < s.heap.objs.size := by
        have e' : b = e ∨ b = it := by simpa using hb
        rcases e' with z | z
        · rw [z]; exact hel
        · rw [z]; exact hil
      rw [upd_ne (Nat.ne_of_lt hb')]
      exact (hf b hb).1
  done := by
    intro X hP hw hK hc i pins s σ H E I hf st hg
    subst hP hw hK
    obtain ⟨⟨old, he⟩, hit, hne⟩ := st
    obtain ⟨xs, hq, hx⟩ := hg
    obtain ⟨its, rv, p, hz⟩ := I.tuple hq
    obtain ⟨f0, f1, f2, f3, f4, f5⟩ := hf it (by simp)
    have hl := rv.length
    have pT : s.heap.IsTuple a its.toArray := p
    have hT : s.TypeIs (.ref e) "enumerate" := ⟨_, he, rfl⟩
    unfold pyNext
    refine wpAny_bind (wpAny_attempt (wpAny_callSpecial?_slot (name := Str.ofString "__next__") hT F.slot_enumerate_next
      (wpAny_call_entry F.slot_enumerate_next hT F.entry_enumerate_next ?_ (F.args_enumerate_next_1 _))))
    show wpAny _ _ (field (.ref e) 2 >>= _) _ _ _
    refine wpAny_bind (wpAny_field he rfl (x := .ref it) rfl ?_)
    refine wpAny_bind (wpAny_nextOf_tuple_end (I.ok.hd hc) hit pT (by simp; omega) fun h' x he' hx' => ?_)
    obtain ⟨o, ho, hc⟩ := hx'
    refine wpAny_bind (wpAny_isInstance (T := "StopIteration") (b := true) ⟨o, ho, hc⟩ isSubtype_stop ?_)
    exact wpAny_pure ⟨rfl, I.turned (t' := s.toks) (fun b o hb q => he' b o hb q) f0 f1 f3 f4 f5⟩
  self := fun A i s Q E st h => let ⟨⟨_, he⟩, _⟩ := st; wpAny_pyIter_enum he h
def iEnumA (K : PySem.W.Frag) (ta : TA) : TI := fun σ H R => ta σ H fun vs H1 => ∃ a xs, vs = [.ref a] ∧ ((SqL K H1 a xs ∧ R (Ite K a) H1) ∨ (SqT K H1 a xs ∧ R (IteT K a) H1))
theorem pi_enumA {X : Cx} {e : Expr} {ta : TA} {p pos tpos : Pos} {elts : List Expr} {kk : Nat} (hg : Gl X "enumerate") (hm : X.mg "enumerate" = none) (ha : PA X [e] ta) (hs : starEach [e] X.env = [(false, eval e X.env)] := by rfl) :
    PI X (.Tuple elts kk tpos) (.Call (.Name "enumerate" p) [e] [] pos) (iEnumA X.K ta) := by
  refine ⟨fun pins s σ H R I h => ?_⟩
  refine Call_ (ld_blt I hg hm boot_enumerate (PyProof.Rows.callWith_type1 (thn (ha.run pos pins s σ H _ I h) fun us s1 ⟨vs, H1, I1, r1, q1⟩ => ?_) hs rfl))
  obtain ⟨a, xs, ex, q⟩ := q1
  subst ex
  cases r1 with
  | cons r rr =>
    cases rr
    cases r
    have fr : ∀ b, b ∈ [s1.heap.objs.size + 1, s1.heap.objs.size] → FpOk X pins H1 b := fun b hb => by
      have e' : b = s1.heap.objs.size + 1 ∨ b = s1.heap.objs.size := by simpa using hb
      have hle : s1.heap.objs.size ≤ b := by
        rcases e' with z | z
        · rw [z]; exact Nat.le_add_right _ _
        · rw [z]; exact Nat.le_refl _
      exact I1.fpOk hle (I1.hok.fresh hle)
    rcases q with ⟨hq, q⟩ | ⟨hq, q⟩
    · obtain ⟨its, rv, p', hz⟩ := I1.list hq
      refine call_enumerate_list p'.isList fun h' he hit hsz hk => wpAny_pyIter_enum he ?_
      have I2 : Inv X pins σ H1 { s1 with heap := h' } := I1.kept (t' := s1.toks) hk
      exact ⟨s1.heap.objs.size + 1, [s1.heap.objs.size + 1, s1.heap.objs.size], _, _, H1, rfl, I2, turn_enum a (s1.heap.objs.size + 1) s1.heap.objs.size, ⟨⟨.none, he⟩, hit, Nat.succ_ne_self _⟩, fr, q⟩
    · obtain ⟨its, rv, p', hz⟩ := I1.tuple hq
      have pT : s1.heap.IsTuple a its.toArray := p'
      refine call_enT pT fun h' he hit hsz hk => wpAny_pyIter_enum he ?_
      have I2 : Inv X pins σ H1 { s1 with heap := h' } := I1.kept (t' := s1.toks) hk
      exact ⟨s1.heap.objs.size + 1, [s1.heap.objs.size + 1, s1.heap.objs.size], _, _, H1, rfl, I2, turn_enT a (s1.heap.objs.size + 1) s1.heap.objs.size, ⟨⟨.none, he⟩, hit, Nat.succ_ne_self _⟩, fr, q⟩
end Mi

set_option Elab.async false
set_option linter.all false
set_option maxRecDepth 100000
namespace Mi
open PySem PySem.Spec PyProof.Rows L2

/-! ### sources -/
def srcP : PV → Option Src
  | .tup xs => some (.im xs)
  | .fl xs => some (.im xs)
  | .lst n => some (.lv n)
  | .str l => some (.im (l.map fun c => .str [c]))
  | _ => none
section
variable {G : Gc} {H : Hp} {ι : Nat → Addr} {n : Nat}
theorem itr_l {a : Addr} {xs : List PV} {vs : List V} (hq : SqL G.K H a vs) (hf : ∀ vs, H a ≠ some (.lst vs)) (r : Reps G.K G.ga H ι n xs vs) : ItR G (Itl G.K a) (.im xs) H ι n := by
  have q : ∀ {H' : Hp} {ι' : Nat → Addr} {n' : Nat}, Ext H ι n H' ι' n' → SqL G.K H' a vs := fun e => by
    rcases hq with (h | ⟨o, h⟩) | h
    · exact absurd h (hf _)
    · exact .inl (.inr ⟨o, e.frz _ _ _ h⟩)
    · exact .inr h
  refine ⟨fun i H' ι' S' e s en => ?_, fun i H' ι' S' x e s en => ?_⟩
  · have en' : xs[i]? = none := by simpa [nthS] using en
    exact ⟨vs, q e, List.getElem?_eq_none_iff.mp (r.none_of en')⟩
  · have en' : xs[i]? = some x := by simpa [nthS] using en
    obtain ⟨u, h1, h2⟩ := (r.ext e).get en'
    refine ⟨⟨vs, u, q e, h1⟩, fun w H'' ⟨y1, y2⟩ => ?_⟩
    subst y1
    have := y2 vs (q e)
    rw [h1] at this
    cases this
    exact ⟨.refl, s, h2⟩
theorem itr_t {a : Addr} {xs : List PV} {vs : List V} (hq : SqT G.K H a vs) (r : Reps G.K G.ga H ι n xs vs) : ItR G (Itt G.K a) (.im xs) H ι n := by
  refine ⟨fun i H' ι' S' e s en => ?_, fun i H' ι' S' x e s en => ?_⟩
  · have en' : xs[i]? = none := by simpa [nthS] using en
    exact ⟨vs, e.sqt hq, List.getElem?_eq_none_iff.mp (r.none_of en')⟩
  · have en' : xs[i]? = some x := by simpa [nthS] using en
    obtain ⟨u, h1, h2⟩ := (r.ext e).get en'
    refine ⟨⟨vs, u, e.sqt hq, h1⟩, fun w H'' ⟨y1, y2⟩ => ?_⟩
    subst y1
    have := y2 vs (e.sqt hq)
    rw [h1] at this
    cases this
    exact ⟨.refl, s, h2⟩
theorem itr_lv {i : Nat} (hi : i < n) : ItR G (Itl G.K (ι i)) (.lv i) H ι n := by
  refine ⟨fun j H' ι' S' e s en => ?_, fun j H' ι' S' x e s en => ?_⟩
  · simp only [nthS] at en
    cases ec : cellL S' i with
    | none => rw [ec] at en; cases en
    | some xs =>
      rw [ec] at en
      obtain ⟨_, vs, h1, h2⟩ := s.get ec
      rw [e.ix i hi] at h1
      exact ⟨vs, SqL.of h1, List.getElem?_eq_none_iff.mp (h2.none_of (by simpa using en))⟩
  · simp only [nthS] at en
    cases ec : cellL S' i with
    | none => rw [ec] at en; cases en
    | some xs =>
      rw [ec] at en
      obtain ⟨_, vs, h1, h2⟩ := s.get ec
      rw [e.ix i hi] at h1
      obtain ⟨u, q1, q2⟩ := h2.get (i := j) (x := x) (by simpa using en)
      refine ⟨⟨vs, u, SqL.of h1, q1⟩, fun w H'' ⟨y1, y2⟩ => ?_⟩
      subst y1
      have := y2 vs (SqL.of h1)
      rw [q1] at this
      cases this
      exact ⟨.refl, s, q2⟩
theorem itr_s {l : List Nat} : ItR G (Its ⟨l.toArray⟩) (.im (l.map fun c => .str [c])) H ι n := by
  refine ⟨fun i H' ι' S' e s en => ?_, fun i H' ι' S' x e s en => ?_⟩
  · have en' : l[i]? = none := by simpa [nthS] using en
    show l.toArray.size ≤ i
    simpa using en'
  · simp only [nthS, List.getElem?_map] at en
    cases ec : l[i]? with
    | none => rw [ec] at en; simp at en
    | some c =>
      rw [ec] at en
      have ex : PV.str [c] = x := by simpa using en
      subst ex
      refine ⟨?_, fun w H'' ⟨y1, d, y2, y3⟩ => ?_⟩
      · show i < l.toArray.size
        simpa using (List.getElem?_eq_some_iff.mp ec).1
      · subst y1; subst y3
        have y2' : l[i]? = some d := by simpa using y2
        rw [ec] at y2'
        cases y2'
        exact ⟨.refl, s, rep_str.mpr rfl⟩
def rngG (f : Nat → Int) : Nat → Nat → List PV
  | 0, _ => []
  | m + 1, i => .int (f i) :: rngG f m (i + 1)
/-- f 0, f 1, .. (m of them) -/
def rngL (f : Nat → Int) (m : Nat) : List PV := rngG f m 0
theorem rngG_get {f : Nat → Int} : ∀ {m i j : Nat}, (rngG f m j)[i]? = if i < m then some (.int (f (j + i))) else none
  | 0, i, j => by simp [rngG]
  | m + 1, 0, j => by simp [rngG]
  | m + 1, i + 1, j => by
    rw [rngG, List.getElem?_cons_succ, rngG_get]
    have e : j + 1 + i = j + (i + 1) := by omega
    rw [e]
    by_cases h : i < m
    · rw [if_pos h, if_pos (by omega)]
    · rw [if_neg h, if_neg (by omega)]
theorem rngL_get {f : Nat → Int} {m i : Nat} : (rngL f m)[i]? = if i < m then some (.int (f i)) else none := by
  unfold rngL
  rw [rngG_get, Nat.zero_add]
theorem itr_r {J : It} {f : Nat → Int} {m : Nat} (hg : ∀ i H, i < m → J.go i H) (hs : ∀ i H, m ≤ i → J.stop i H) (hy : ∀ i H x H', J.yld i H x H' → H' = H ∧ x = .int (f i)) : ItR G J (.im (rngL f m)) H ι n := by
  refine ⟨fun i H' ι' S' e s en => ?_, fun i H' ι' S' x e s en => ?_⟩
  · simp only [nthS, rngL_get] at en
    refine hs i H' ?_
    by_cases h : i < m
    · rw [if_pos h] at en; cases en
    · omega
  · simp only [nthS, rngL_get] at en
    by_cases h : i < m
    · rw [if_pos h] at en
      cases en
      refine ⟨hg i H' h, fun w H'' y => ?_⟩
      obtain ⟨y1, y2⟩ := hy i H' w H'' y
      subst y1; subst y2
      exact ⟨.refl, s, rep_int.mpr rfl⟩
    · rw [if_neg h] at en; cases en
theorem it_pair {S : Sto} (s : SRel G H ι S) {x y : PV} {u v : V} {T : Addr} (hT : H T = none) (r1 : Rep G.K G.ga H ι S.length x u) (r2 : Rep G.K G.ga H ι S.length y v) :
    Ext H ι S.length (upd H T (.tup [u, v])) ι S.length ∧ SRel G (upd H T (.tup [u, v])) ι S ∧ Rep G.K G.ga (upd H T (.tup [u, v])) ι S.length (.tup [x, y]) (.ref T) := by
  have e : Ext H ι S.length (upd H T (.tup [u, v])) ι S.length := ext_new hT (fun _ _ => rfl) (Nat.le_refl _)
  exact ⟨e, s.laid hT, rep_tup.mpr ⟨T, _, rfl, .inl (.inl upd_same), (Reps.cons r1 (Reps.cons r2 .nil)).ext e⟩⟩
theorem itr_e {K : PySem.W.Frag} {a : Addr} {src : Src} (h : ItR G (Itl K a) src H ι n) : ItR G (Ite K a) (.en src) H ι n := by
  refine ⟨fun i H' ι' S' e s en => ?_, fun i H' ι' S' x e s en => ?_⟩
  · simp only [nthS] at en
    refine h.stop i H' ι' S' e s ?_
    cases q : nthS src i S' with
    | none => rw [q] at en; cases en
    | some o =>
      rw [q] at en
      cases o with
      | none => rfl
      | some z => cases en
  · simp only [nthS] at en
    cases q : nthS src i S' with
    | none => rw [q] at en; cases en
    | some o =>
      rw [q] at en
      cases o with
      | none => cases en
      | some z =>
        cases en
        obtain ⟨g1, g2⟩ := h.go i H' ι' S' z e s q
        refine ⟨g1, fun w H'' ⟨T, y, e1, hT, e2, e3⟩ => ?_⟩
        subst e1; subst e2
        obtain ⟨_, _, r⟩ := g2 y H' ⟨rfl, e3⟩
        exact it_pair s hT (rep_int.mpr rfl) r
theorem itr_eT {K : PySem.W.Frag} {a : Addr} {src : Src} (h : ItR G (Itt K a) src H ι n) : ItR G (IteT K a) (.en src) H ι n := by
  refine ⟨fun i H' ι' S' e s en => ?_, fun i H' ι' S' x e s en => ?_⟩
  · simp only [nthS] at en
    refine h.stop i H' ι' S' e s ?_
    cases q : nthS src i S' with
    | none => rw [q] at en; cases en
    | some o =>
      rw [q] at en
      cases o with
      | none => rfl
      | some z => cases en
  · simp only [nthS] at en
    cases q : nthS src i S' with
    | none => rw [q] at en; cases en
    | some o =>
      rw [q] at en
      cases o with
      | none => cases en
      | some z =>
        cases en
        obtain ⟨g1, g2⟩ := h.go i H' ι' S' z e s q
        refine ⟨g1, fun w H'' ⟨T, y, e1, hT, e2, e3⟩ => ?_⟩
        subst e1; subst e2
        obtain ⟨_, _, r⟩ := g2 y H' ⟨rfl, e3⟩
        exact it_pair s hT (rep_int.mpr rfl) r
theorem itr_z {K : PySem.W.Frag} {a b : Addr} {s1 s2 : Src} (h : ItR G (Itl K a) s1 H ι n) (k : ItR G (Itl K b) s2 H ι n) (ha : ∀ {H' ι' S'}, Ext H ι n H' ι' S'.length → SRel G H' ι' S' → ∃ xs, SqL K H' a xs) (hb : ∀ {H' ι' S'}, Ext H ι n H' ι' S'.length → SRel G H' ι' S' → ∃ xs, SqL K H' b xs) : ItR G (Itz K a b) (.zp s1 s2) H ι n := by
  refine ⟨fun i H' ι' S' e s en => ?_, fun i H' ι' S' x e s en => ?_⟩
  · obtain ⟨xs, hx⟩ := ha e s
    obtain ⟨ys, hy⟩ := hb e s
    simp only [nthS] at en
    split at en
    · cases en
    · rename_i q1 q2
      obtain ⟨xs, p1, p2⟩ := h.stop i H' ι' S' e s q1
      exact ⟨xs, ys, p1, hy, .inl p2⟩
    · rename_i q1 q2
      obtain ⟨ys, p1, p2⟩ := k.stop i H' ι' S' e s q2
      exact ⟨xs, ys, hx, p1, .inr p2⟩
    · cases en
  · simp only [nthS] at en
    split at en
    · rename_i x1 x2 q1 q2
      cases en
      obtain ⟨⟨xs, u, p1, p2⟩, g2⟩ := h.go i H' ι' S' _ e s q1
      obtain ⟨⟨ys, v, p3, p4⟩, k2⟩ := k.go i H' ι' S' _ e s q2
      refine ⟨⟨xs, ys, u, v, p1, p3, p2, p4⟩, fun w H'' ⟨T, y, z, e1, hT, e2, e3, e4⟩ => ?_⟩
      subst e1; subst e2
      obtain ⟨_, _, r⟩ := g2 y H' ⟨rfl, e3⟩
      obtain ⟨_, _, r'⟩ := k2 z H' ⟨rfl, e4⟩
      exact it_pair s hT r r'
    · cases en
    · cases en
    · cases en
theorem itr_zT {K : PySem.W.Frag} {a b : Addr} {s1 s2 : Src} (h : ItR G (Itt K a) s1 H ι n) (k : ItR G (Itt K b) s2 H ι n) (ha : ∀ {H' ι' S'}, Ext H ι n H' ι' S'.length → SRel G H' ι' S' → ∃ xs, SqT K H' a xs) (hb : ∀ {H' ι' S'}, Ext H ι n H' ι' S'.length → SRel G H' ι' S' → ∃ xs, SqT K H' b xs) : ItR G (RZ.ItzT K a b) (.zp s1 s2) H ι n := by
  refine ⟨fun i H' ι' S' e s en => ?_, fun i H' ι' S' x e s en => ?_⟩
  · obtain ⟨xs, hx⟩ := ha e s
    obtain ⟨ys, hy⟩ := hb e s
    simp only [nthS] at en
    split at en
    · cases en
    · rename_i q1 q2
      obtain ⟨xs, p1, p2⟩ := h.stop i H' ι' S' e s q1
      exact ⟨xs, ys, p1, hy, .inl p2⟩
    · rename_i q1 q2
      obtain ⟨ys, p1, p2⟩ := k.stop i H' ι' S' e s q2
      exact ⟨xs, ys, hx, p1, .inr p2⟩
    · cases en
  · simp only [nthS] at en
    split at en
    · rename_i x1 x2 q1 q2
      cases en
      obtain ⟨⟨xs, u, p1, p2⟩, g2⟩ := h.go i H' ι' S' _ e s q1
      obtain ⟨⟨ys, v, p3, p4⟩, k2⟩ := k.go i H' ι' S' _ e s q2
      refine ⟨⟨xs, ys, u, v, p1, p3, p2, p4⟩, fun w H'' ⟨T, y, z, e1, hT, e2, e3, e4⟩ => ?_⟩
      subst e1; subst e2
      obtain ⟨_, _, r⟩ := g2 y H' ⟨rfl, e3⟩
      obtain ⟨_, _, r'⟩ := k2 z H' ⟨rfl, e4⟩
      exact it_pair s hT r r'
    · cases en
    · cases en
    · cases en
/-- a value read as list, as tuple, as text -/
inductive Kd where
  | l | t | s
def kdP : PV → Option Kd
  | .tup _ => some .t
  | .fl _ => some .l
  | .lst _ => some .l
  | .str _ => some .s
  | _ => none
theorem it_l {S : Sto} {v : PV} {x : V} {src : Src} (s : SRel G H ι S) (r : Rep G.K G.ga H ι S.length v x) (e : srcP v = some src) (k : kdP v = some .l) :
    ∃ a, x = .ref a ∧ ItR G (Itl G.K a) src H ι S.length ∧ ∀ {H' ι' S'}, Ext H ι S.length H' ι' S'.length → SRel G H' ι' S' → ∃ xs, SqL G.K H' a xs := by
  cases v <;> try (cases k; done)
  case fl xs =>
    cases e
    simp only [Rep] at r
    obtain ⟨a, vs, rfl, hq, hr⟩ := r
    rcases hq with ⟨o, hq⟩ | hq
    · exact ⟨a, rfl, itr_l (.inl (.inr ⟨o, hq⟩)) (fun vs z => by rw [hq] at z; cases z) hr, fun {H' ι' S'} e' _ => ⟨vs, .inl (.inr ⟨o, e'.frz _ _ _ hq⟩)⟩⟩
    · refine ⟨a, rfl, ?_, fun {H' ι' S'} e' _ => ⟨vs, .inr hq⟩⟩
      refine ⟨fun i H' ι' S' e s en => ?_, fun i H' ι' S' x e s en => ?_⟩
      · have en' : xs[i]? = none := by simpa [nthS] using en
        exact ⟨vs, .inr hq, List.getElem?_eq_none_iff.mp (hr.none_of en')⟩
      · have en' : xs[i]? = some x := by simpa [nthS] using en
        obtain ⟨u, h1, h2⟩ := (hr.ext e).get en'
        refine ⟨⟨vs, u, .inr hq, h1⟩, fun w H'' ⟨y1, y2⟩ => ?_⟩
        subst y1
        have := y2 vs (.inr hq)
        rw [h1] at this
        cases this
        exact ⟨.refl, s, h2⟩
  case lst m =>
    cases e
    obtain ⟨rfl, hm⟩ := rep_lst.mp r
    refine ⟨ι m, rfl, itr_lv hm, fun {H' ι' S'} e' s' => ?_⟩
    obtain ⟨_, vs, _, h2, _⟩ := s'.at (Nat.lt_of_lt_of_le hm e'.le)
    rw [e'.ix m hm] at h2
    exact ⟨vs, SqL.of h2⟩
theorem it_t {S : Sto} {v : PV} {x : V} {src : Src} (r : Rep G.K G.ga H ι S.length v x) (e : srcP v = some src) (k : kdP v = some .t) :
    ∃ a, x = .ref a ∧ ItR G (Itt G.K a) src H ι S.length ∧ ∀ {H' : Hp} {ι' : Nat → Addr} {S' : Sto}, Ext H ι S.length H' ι' S'.length → SRel G H' ι' S' → ∃ xs, SqT G.K H' a xs := by
  cases v <;> try (cases k; done)
  case tup xs =>
    cases e
    obtain ⟨a, vs, rfl, hq, hr⟩ := rep_tup.mp r
    exact ⟨a, rfl, itr_t hq hr, fun {H' ι' S'} e' _ => ⟨vs, e'.sqt hq⟩⟩
end
def iA (m : ME) : MI := fun cl env S => bnd (m cl env S) fun v S1 => match srcP v with
  | some src => .ok src S1
  | none => .err
/-- range(..) -/
def okR (i : Int) : Bool := Nat.ble i.natAbs 4611686018427387903
def rngP : List PV → Option Src
  | [.int j] => if okR j = true then some (.im (rngL (fun k => (k : Nat)) j.toNat)) else none
  | [.int i, .int j] => if (okR i && okR j) = true then some (.im (rngL (fun k => i + (k : Nat)) (j - i).toNat)) else none
  | [.int i, .int j, .int c] => if (okR i && okR j && decide (c = -1)) = true then some (.im (rngL (fun k => i + (k : Nat) * c) (i - j).toNat)) else none
  | _ => none
def iR (m : MA) : MI := fun cl env S => bnd (m cl env S) fun vs S1 => match rngP vs with
  | some src => .ok src S1
  | none => .err
/-- enumerate(list) -/
def iE (m : MA) : MI := fun cl env S => bnd (m cl env S) fun vs S1 => match vs with
  | [v] => match kdP v, srcP v with
    | some .l, some src => .ok (.en src) S1
    | some .t, some src => .ok (.en src) S1
    | _, _ => .err
  | _ => .err
def iZ (m : MA) : MI := fun cl env S => bnd (m cl env S) fun vs S1 => match vs with
  | [v, w] => match kdP v, kdP w, srcP v, srcP w with
    | some .l, some .l, some s1, some s2 => .ok (.zp s1 s2) S1
    | some .t, some .t, some s1, some s2 => .ok (.zp s1 s2) S1
    | _, _, _, _ => .err
  | _ => .err
section
variable {G : Gc} {tk : Tks} {cl : Cl} {W : WX} {X : Cx} {tg : Expr}
theorem ri_any {e : Expr} {m : ME} (hK : X.K = G.K) (he : PE X e (RdE G tk cl W m)) : PI X tg e (RdI G tk cl W (iA m)) :=
  PI.imp (pi_any he) fun σ H R ⟨ι, env, S, r, s, k⟩ => ⟨ι, env, S, r, s, (KE.bind (R1 := RV G) k).imp fun x H1 ⟨v, ι1, S1, e1, s1, r1, k1⟩ => by
    rw [hK]
    cases es : srcP v with
    | none => rw [es] at k1; exact k1.elim
    | some src =>
      rw [es] at k1
      cases ek : kdP v with
      | none => cases v <;> first | (cases es; done) | (cases ek; done)
      | some kd =>
        cases kd with
        | l =>
          obtain ⟨a, rfl, it, hx⟩ := it_l s1 r1 es ek
          exact .inl ⟨a, rfl, hx .refl s1, k1 _ H1 ι1 .refl s1 it⟩
        | t =>
          obtain ⟨a, rfl, it, hx⟩ := it_t r1 es ek
          exact .inr (.inl ⟨a, rfl, hx .refl s1, k1 _ H1 ι1 .refl s1 it⟩)
        | s =>
          cases v <;> try (cases ek; done)
          rename_i l
          cases es
          have ex := rep_str.mp r1
          exact .inr (.inr ⟨_, ex, k1 _ H1 ι1 .refl s1 itr_s⟩)⟩
theorem okR_iff {i : Int} (h : okR i = true) : -(2 ^ 62) ≤ i ∧ i < 2 ^ 62 := by
  have := Nat.le_of_ble_eq_true h
  exact ⟨by omega, by omega⟩
theorem ri_range1 {a : Expr} {ma : MA} {p pos : Pos} (hg : Gl X "range") (hm : X.mg "range" = none) (ha : PA X [a] (RdA G tk cl W ma)) (hs : starEach [a] X.env = [(false, eval a X.env)]) (hl : ∀ env S xs S', ma cl env S = .ok xs S' → xs.length = 1) : PI X tg (.Call (.Name "range" p) [a] [] pos) (RdI G tk cl W (iR ma)) :=
  PI.imp (pi_range1 hg hm ha hs) fun σ H R ⟨ι, env, S, r, s, k⟩ => by
    refine ⟨ι, env, S, r, s, ?_⟩
    have k2 := KE.bind (R1 := RVs G) k
    cases e : ma cl env S with
    | err => rw [e] at k2; exact k2
    | exc c p S' => rw [e] at k2; exact k2
    | ok xs S1 =>
      rw [e] at k2
      intro ys H1 ι1 e1 s1 r1
      obtain ⟨v, ι2, S2, e2, s2, r2, k3⟩ := k2 ys H1 ι1 e1 s1 r1
      have hz := hl _ _ _ _ e
      have hz2 : v.length = 1 := by rw [← r2.len, r1.len, hz]
      match v, hz2 with
      | [w], _ =>
        obtain ⟨y, q, rfl, q1, q2⟩ := r2.uncons
        have q2 := q2.of_nil
        subst q2
        obtain ⟨j, rfl⟩ : ∃ q, w = .int q := by cases w <;> first | exact ⟨_, rfl⟩ | exact k3.elim
        have ey := rep_int.mp q1
        subst ey
        simp only [rngP] at k3
        by_cases hj : okR j = true
        · rw [if_pos hj] at k3
          obtain ⟨h1, h2⟩ := okR_iff hj
          exact ⟨j, rfl, h1, h2, k3 _ H1 ι2 .refl s2 (itr_r (fun i H h => h) (fun i H h => h) fun i H x H' ⟨y1, y2⟩ => ⟨y1, by rw [y2]; congr 1; omega⟩)⟩
        · rw [if_neg hj] at k3; exact k3.elim
theorem ri_range2 {a b : Expr} {ma : MA} {p pos : Pos} (hg : Gl X "range") (hm : X.mg "range" = none) (ha : PA X [a, b] (RdA G tk cl W ma)) (hs : starEach [a, b] X.env = [(false, eval a X.env), (false, eval b X.env)]) (hs2 : starEach [b] X.env = [(false, eval b X.env)]) (hl : ∀ env S xs S', ma cl env S = .ok xs S' → xs.length = 2) : PI X tg (.Call (.Name "range" p) [a, b] [] pos) (RdI G tk cl W (iR ma)) :=
  PI.imp (pi_range2 hg hm ha hs hs2) fun σ H R ⟨ι, env, S, r, s, k⟩ => by
    refine ⟨ι, env, S, r, s, ?_⟩
    have k2 := KE.bind (R1 := RVs G) k
    cases e : ma cl env S with
    | err => rw [e] at k2; exact k2
    | exc c p S' => rw [e] at k2; exact k2
    | ok xs S1 =>
      rw [e] at k2
      intro ys H1 ι1 e1 s1 r1
      obtain ⟨v, ι2, S2, e2, s2, r2, k3⟩ := k2 ys H1 ι1 e1 s1 r1
      have hz := hl _ _ _ _ e
      have hz2 : v.length = 2 := by rw [← r2.len, r1.len, hz]
      match v, hz2 with
      | [w, z], _ =>
        obtain ⟨y, y', rfl, q1, q2⟩ := reps2 r2
        obtain ⟨i, rfl⟩ : ∃ q, w = .int q := by cases w <;> first | exact ⟨_, rfl⟩ | exact k3.elim
        obtain ⟨j, rfl⟩ : ∃ q, z = .int q := by cases z <;> first | exact ⟨_, rfl⟩ | exact k3.elim
        have ey := rep_int.mp q1
        subst ey
        have ey := rep_int.mp q2
        subst ey
        simp only [rngP] at k3
        by_cases hj : (okR i && okR j) = true
        · rw [if_pos hj] at k3
          rw [Bool.and_eq_true] at hj
          obtain ⟨h1, h2⟩ := okR_iff hj.1
          obtain ⟨h3, h4⟩ := okR_iff hj.2
          exact ⟨i, j, rfl, ⟨h1, h2, h3, h4⟩, k3 _ H1 ι2 .refl s2 (itr_r (fun i H h => h) (fun i H h => h) fun i H x H' ⟨y1, y2⟩ => ⟨y1, y2⟩)⟩
        · rw [if_neg hj] at k3; exact k3.elim
theorem ri_range3 {a b c : Expr} {ma : MA} {p pos : Pos} (hg : Gl X "range") (hm : X.mg "range" = none) (ha : PA X [a, b, c] (RdA G tk cl W ma)) (hs : starEach [a, b, c] X.env = (false, eval a X.env) :: starEach [b, c] X.env) (hpl : (backTo pos (starEach [b, c] X.env)).any (·.1) = false) (hl : ∀ env S xs S', ma cl env S = .ok xs S' → xs.length = 3) : PI X tg (.Call (.Name "range" p) [a, b, c] [] pos) (RdI G tk cl W (iR ma)) :=
  PI.imp (pi_range3 hg hm ha hs hpl) fun σ H R ⟨ι, env, S, r, s, k⟩ => by
    refine ⟨ι, env, S, r, s, ?_⟩
    have k2 := KE.bind (R1 := RVs G) k
    cases e : ma cl env S with
    | err => rw [e] at k2; exact k2
    | exc c p S' => rw [e] at k2; exact k2
    | ok xs S1 =>
      rw [e] at k2
      intro ys H1 ι1 e1 s1 r1
      obtain ⟨v, ι2, S2, e2, s2, r2, k3⟩ := k2 ys H1 ι1 e1 s1 r1
      have hz := hl _ _ _ _ e
      have hz2 : v.length = 3 := by rw [← r2.len, r1.len, hz]
      match v, hz2 with
      | [w, z, t], _ =>
        obtain ⟨y, y', y'', rfl, q1, q2, q3⟩ := reps3 r2
        obtain ⟨i, rfl⟩ : ∃ q, w = .int q := by cases w <;> first | exact ⟨_, rfl⟩ | exact k3.elim
        obtain ⟨j, rfl⟩ : ∃ q, z = .int q := by cases z <;> first | exact ⟨_, rfl⟩ | exact k3.elim
        obtain ⟨c, rfl⟩ : ∃ q, t = .int q := by cases t <;> first | exact ⟨_, rfl⟩ | exact k3.elim
        have ey := rep_int.mp q1
        subst ey
        have ey := rep_int.mp q2
        subst ey
        have ey := rep_int.mp q3
        subst ey
        simp only [rngP] at k3
        by_cases hj : (okR i && okR j && decide (c = -1)) = true
        · rw [if_pos hj] at k3
          rw [Bool.and_eq_true, Bool.and_eq_true] at hj
          obtain ⟨h1, h2⟩ := okR_iff hj.1.1
          obtain ⟨h3, h4⟩ := okR_iff hj.1.2
          have hc : c = -1 := by simpa using hj.2
          subst hc
          exact ⟨i, j, -1, _, rfl, RgC.neg h1 h2 h3 h4, k3 _ H1 ι2 .refl s2 (itr_r (fun i H h => h) (fun i H h => h) fun i H x H' ⟨y1, y2⟩ => ⟨y1, y2⟩)⟩
        · rw [if_neg hj] at k3; exact k3.elim
theorem ri_enum {a : Expr} {ma : MA} {p pos tpos : Pos} {elts : List Expr} {kk : Nat} (hK : X.K = G.K) (hg : Gl X "enumerate") (hm : X.mg "enumerate" = none) (ha : PA X [a] (RdA G tk cl W ma)) (hs : starEach [a] X.env = [(false, eval a X.env)]) (hl : ∀ env S xs S', ma cl env S = .ok xs S' → xs.length = 1) : PI X (.Tuple elts kk tpos) (.Call (.Name "enumerate" p) [a] [] pos) (RdI G tk cl W (iE ma)) :=
  PI.imp (pi_enumA hg hm ha hs) fun σ H R ⟨ι, env, S, r, s, k⟩ => by
    refine ⟨ι, env, S, r, s, ?_⟩
    have k2 := KE.bind (R1 := RVs G) k
    cases e : ma cl env S with
    | err => rw [e] at k2; exact k2
    | exc c p S' => rw [e] at k2; exact k2
    | ok xs S1 =>
      rw [e] at k2
      intro ys H1 ι1 e1 s1 r1
      obtain ⟨v, ι2, S2, e2, s2, r2, k3⟩ := k2 ys H1 ι1 e1 s1 r1
      have hz := hl _ _ _ _ e
      have hz2 : v.length = 1 := by rw [← r2.len, r1.len, hz]
      match v, hz2 with
      | [w], _ =>
        obtain ⟨y, q, rfl, q1, q2⟩ := r2.uncons
        have q2 := q2.of_nil
        subst q2
        dsimp only at k3
        split at k3
        · rename_i src ek es
          obtain ⟨b, rfl, it, hx⟩ := it_l s2 q1 es ek
          obtain ⟨zs, hzs⟩ := hx .refl s2
          rw [hK]
          exact ⟨b, zs, rfl, .inl ⟨hzs, k3 _ H1 ι2 .refl s2 (itr_e it)⟩⟩
        · rename_i src ek es
          obtain ⟨b, rfl, it, hx⟩ := it_t q1 es ek
          obtain ⟨zs, hzs⟩ := hx .refl s2
          rw [hK]
          exact ⟨b, zs, rfl, .inr ⟨hzs, k3 _ H1 ι2 .refl s2 (itr_eT it)⟩⟩
        · exact k3.elim
theorem ri_zip {a b : Expr} {ma : MA} {p pos tpos : Pos} {elts : List Expr} {kk : Nat} (hK : X.K = G.K) (hg : Gl X "zip") (hm : X.mg "zip" = none) (ha : PA X [a, b] (RdA G tk cl W ma)) (hs : starEach [a, b] X.env = (false, eval a X.env) :: starEach [b] X.env) (hpl : (backTo pos (starEach [b] X.env)).any (·.1) = false) (hl : ∀ env S xs S', ma cl env S = .ok xs S' → xs.length = 2) : PI X (.Tuple elts kk tpos) (.Call (.Name "zip" p) [a, b] [] pos) (RdI G tk cl W (iZ ma)) :=
  PI.imp (RZ.pi_zipA hg hm ha hs hpl) fun σ H R ⟨ι, env, S, r, s, k⟩ => by
    refine ⟨ι, env, S, r, s, ?_⟩
    have k2 := KE.bind (R1 := RVs G) k
    cases e : ma cl env S with
    | err => rw [e] at k2; exact k2
    | exc c p S' => rw [e] at k2; exact k2
    | ok xs S1 =>
      rw [e] at k2
      intro ys H1 ι1 e1 s1 r1
      obtain ⟨v, ι2, S2, e2, s2, r2, k3⟩ := k2 ys H1 ι1 e1 s1 r1
      have hz := hl _ _ _ _ e
      have hz2 : v.length = 2 := by rw [← r2.len, r1.len, hz]
      match v, hz2 with
      | [w, z], _ =>
        obtain ⟨y, y', rfl, q1, q2⟩ := reps2 r2
        dsimp only at k3
        rw [hK]
        split at k3
        · rename_i t1 t2 ek ek' es es'
          obtain ⟨a1, rfl, it, hx⟩ := it_l s2 q1 es ek
          obtain ⟨a2, rfl, it', hx'⟩ := it_l s2 q2 es' ek'
          obtain ⟨z1, h1⟩ := hx .refl s2
          obtain ⟨z2, h2⟩ := hx' .refl s2
          exact ⟨a1, a2, z1, z2, rfl, .inl ⟨h1, h2, k3 _ H1 ι2 .refl s2 (itr_z it it' hx hx')⟩⟩
        · rename_i t1 t2 ek ek' es es'
          obtain ⟨a1, rfl, it, hx⟩ := it_t q1 es ek
          obtain ⟨a2, rfl, it', hx'⟩ := it_t q2 es' ek'
          obtain ⟨z1, h1⟩ := hx .refl s2
          obtain ⟨z2, h2⟩ := hx' .refl s2
          exact ⟨a1, a2, z1, z2, rfl, .inr ⟨h1, h2, k3 _ H1 ι2 .refl s2 (itr_zT it it' hx hx')⟩⟩
        · exact k3.elim
end
end Mi

set_option Elab.async false
set_option linter.all false
set_option maxRecDepth 100000
namespace Mi
open PySem PySem.Spec PyProof.Rows L2

/-- slots forgotten -/
def wipeE (env : Env) : List Nat → Env
  | [] => env
  | v :: vs => (wipeE env vs).set v .un
theorem ERel.wipe {G : Gc} {tk : Tks} {H : Hp} {ι : Nat → Addr} {n : Nat} {σ : L2.St} {env : Env} (h : ERel G tk H ι n σ env) : ∀ vs : List Nat, ERel G tk H ι n (L2.wipe σ vs) (wipeE env vs)
  | [] => h
  | v :: vs => by
    have ih := ERel.wipe h vs
    refine ⟨by unfold wipeE L2.wipe; rw [List.length_set, List.length_set]; exact ih.len, fun j s e => ?_⟩
    unfold wipeE at e
    unfold L2.wipe
    by_cases hj : v = j
    · subst hj
      by_cases hl : v < (wipeE env vs).length
      · rw [List.getElem?_set_self hl] at e
        cases e
        exact True.intro
      · rw [List.getElem?_eq_none (by simpa using hl)] at e
        cases e
    · rw [List.getElem?_set_ne hj] at e
      rw [List.getElem?_set_ne hj]
      exact ih.at_ j s e
theorem wipe_wipe {σ : L2.St} {vs : List Nat} : wipe (wipe σ vs) vs = wipe σ vs := by
  have gen : ∀ (us : List Nat) (τ : L2.St), (∀ i ∈ us, i ∈ vs) → wipe τ vs = wipe σ vs → wipe (wipe τ us) vs = wipe σ vs := by
    intro us
    induction us with
    | nil => intro τ _ h; exact h
    | cons u us ih =>
      intro τ hi h
      show wipe ((wipe τ us).set u none) vs = wipe σ vs
      rw [wipe_set (hi u (by simp))]
      exact ih τ (fun i h => hi i (by simp [h])) h
  exact gen vs σ (fun _ h => h) rfl
section
variable {G : Gc} {H : Hp} {ι : Nat → Addr} {S : Sto}
/-- a list that is none of ours is changed -/
theorem SRel.other (h : SRel G H ι S) {D : Addr} {vs ws : List V} (hD : H D = some (.lst vs)) (hn : ∀ i, i < S.length → ι i ≠ D) : SRel G (upd H D (.lst ws)) ι S ∧ Ex0 H ι S.length (upd H D (.lst ws)) ι S.length := by
  have ex : ∀ k, Ex0 H ι k (upd H D (.lst ws)) ι k := fun k => ⟨fun a xs h => by rw [upd_ne (ne_of h hD (by intro z; cases z))]; exact h, fun a o u h => by rw [upd_ne (ne_of h hD (by intro z; cases z))]; exact h, fun a φ h => by rw [upd_ne (ne_of h hD (by intro z; cases z))]; exact h, fun _ _ => rfl, Nat.le_refl _⟩
  refine ⟨⟨h.inj, fun i xs e => ?_, tbl_ne h.tabs (fun ps e => by rw [hD] at e; cases e) fun φ e => by rw [hD] at e; cases e⟩, ex _⟩
  obtain ⟨us, q1, q2⟩ := h.cell i xs e
  exact ⟨us, by rw [upd_ne (hn i (List.getElem?_eq_some_iff.mp e).1)]; exact q1, q2.ext0 (ex _)⟩
/-- a list that is none of ours becomes one -/
theorem SRel.adopt (h : SRel G H ι S) {D : Addr} {xs : List PV} {vs : List V} (hD : H D = some (.lst vs)) (hn : ∀ i, i < S.length → ι i ≠ D) (r : Reps G.K G.ga H ι S.length xs vs) : SRel G H (ixUp ι S.length D) (S ++ [.lst xs]) := by
  have ex : ∀ k, k ≤ S.length → Ex0 H ι k H (ixUp ι S.length D) k := fun k hk => ⟨fun _ _ h => h, fun _ _ _ h => h, fun _ _ h => h, fun i hi => ixUp_lt (Nat.lt_of_lt_of_le hi hk), Nat.le_refl _⟩
  refine ⟨fun i j hi hj e => ?_, fun i ys e => ?_, h.tabs⟩
  · rw [List.length_append, List.length_singleton] at hi hj
    by_cases h1 : i = S.length
    · by_cases h2 : j = S.length
      · omega
      · rw [h1, ixUp_eq, ixUp_lt (by omega)] at e
        exact absurd e.symm (hn j (by omega))
    · by_cases h2 : j = S.length
      · rw [h2, ixUp_eq, ixUp_lt (by omega)] at e
        exact absurd e (hn i (by omega))
      · rw [ixUp_lt (by omega), ixUp_lt (by omega)] at e
        exact h.inj i j (by omega) (by omega) e
  · by_cases h1 : i = S.length
    · subst h1
      rw [List.getElem?_append_right (Nat.le_refl _), Nat.sub_self] at e
      have e' : xs = ys := by simpa using e
      subst e'
      exact ⟨vs, by rw [ixUp_eq]; exact hD, r.ext0 (ex _ (Nat.le_refl _))⟩
    · have hi : i < S.length := by
        have := (List.getElem?_eq_some_iff.mp e).1
        rw [List.length_append, List.length_singleton] at this
        omega
      rw [List.getElem?_append_left hi] at e
      obtain ⟨ws, e1, e2⟩ := h.cell i ys e
      exact ⟨ws, by rw [ixUp_lt hi]; exact e1, e2.ext0 (ex i (Nat.le_of_lt hi))⟩
end

/-! ### comprehensions: nothing is raised within -/
@[reducible] def bndN {α β : Type} (r : Res α) (k : α → Sto → Res β) : Res β := match r with
  | .ok a S => k a S
  | _ => .err
theorem KE.bindN {α β γ δ : Type} {G : Gc} {E E0 : XK} {H1 H : Hp} {ι1 ι : Nat → Addr} {n1 n : Nat} {R : Hp → (Nat → Addr) → Nat → α → β → Prop} {Q : β → Hp → Prop} {r : Res δ} {k : δ → Sto → Res α} {R1 : Hp → (Nat → Addr) → Nat → δ → γ → Prop} (h : KE G E H1 ι1 n1 (bndN r k) R Q) :
    KE G E0 H ι n r R1 (fun x H' => ∃ v ι' S', Ext H ι n H' ι' S'.length ∧ SRel G H' ι' S' ∧ R1 H' ι' S'.length v x ∧ KE G E H1 ι1 n1 (k v S') R Q) := by
  cases r with
  | ok v S' => exact fun x H' ι' e s q => ⟨v, ι', S', e, s, q, h⟩
  | exc c p S' => exact False.elim h
  | err => exact h
def lcN (cl : Cl) (g : MG) (t : MB) (e : ME) (src : Src) (env : Env) : Nat → Nat → Sto → Res (List PV)
  | 0, _, _ => .err
  | k + 1, i, S => match nthS src i S with
    | some none => .ok [] S
    | some (some x) => match g x env with
      | some env1 => bndN (t cl env1 S) fun c S1 => match c with
        | false => lcN cl g t e src env k (i + 1) S1
        | true => bndN (e cl env1 S1) fun y S2 => bndN (lcN cl g t e src env k (i + 1) S2) fun ys S3 => .ok (y :: ys) S3
      | none => .err
    | none => .err
def lcL (cl : Cl) (g : MG) (t : MB) (e : ME) (env : Env) : List PV → Sto → Res (List PV)
  | [], S => .ok [] S
  | x :: xs, S => match g x env with
    | some env1 => bndN (t cl env1 S) fun c S1 => match c with
      | false => lcL cl g t e env xs S1
      | true => bndN (e cl env1 S1) fun y S2 => bndN (lcL cl g t e env xs S2) fun ys S3 => .ok (y :: ys) S3
    | none => .err
theorem lcL_eq {cl : Cl} {g : MG} {t : MB} {e : ME} {env : Env} {ys : List PV} : ∀ (xs : List PV) (i : Nat) (S : Sto), ys.drop i = xs → lcL cl g t e env xs S = lcN cl g t e (.im ys) env (xs.length + 1) i S
  | [], i, S, h => by
    have e : ys[i]? = none := List.getElem?_eq_none (List.drop_eq_nil_iff.mp h)
    simp only [lcL, lcN, List.length_nil, nthS, e]
  | x :: xs, i, S, h => by
    have e : ys[i]? = some x := by
      have := congrArg (·[0]?) h
      simpa using this
    have h' : ys.drop (i + 1) = xs := by
      have := congrArg (List.drop 1) h
      simpa [Nat.add_comm] using this
    rw [List.length_cons]
    simp only [lcL]
    rw [lcN]
    simp only [nthS, e]
    have ih := fun S => lcL_eq (cl := cl) (g := g) (t := t) (e := by assumption) (env := env) xs (i + 1) S h'
    cases g x env with
    | none => rfl
    | some env1 => simp only [lcL_eq xs (i + 1) _ h']
def mLc (vs : List Nat) (g : MG) (t : MB) (e : ME) (mi : MI) : ME := fun cl env S => bnd (mi cl env S) fun src S1 => bndN (match src with
  | .im xs => lcL cl g t e (wipeE env vs) xs S1
  | src => lcN cl g t e src (wipeE env vs) (lenS src S1 + 1) 0 S1) fun l S2 => if l.length ≤ 16777216 then .ok (.lst S2.length) (S2 ++ [.lst l]) else .err
theorem mLc_eq {vs : List Nat} {g : MG} {t : MB} {e : ME} {mi : MI} {cl : Cl} {env : Env} {S : Sto} : mLc vs g t e mi cl env S = bnd (mi cl env S) fun src S1 => bndN (lcN cl g t e src (wipeE env vs) (lenS src S1 + 1) 0 S1) fun l S2 => if l.length ≤ 16777216 then .ok (.lst S2.length) (S2 ++ [.lst l]) else .err := by
  unfold mLc bnd
  cases mi cl env S with
  | ok src S1 =>
    cases src with
    | im xs => dsimp only; rw [lcL_eq xs 0 S1 rfl]; rfl
    | _ => rfl
  | _ => rfl
def tYe : MB := fun _ _ S => .ok true S
abbrev W0 : WX := fun _ _ _ _ => False
section
variable {G : Gc} {tk : Tks} {cl : Cl} {W : WX} {X : Cx}
theorem rts_nil : PTs X [] (RdB G tk cl W tYe) := ⟨fun pins s σ H Q I ⟨ι, env, S, r, s', k⟩ => pts_nil.run pins s σ H Q I (k true H ι .refl s' rfl)⟩
theorem lc_read {wi : TI} {t : TG} {g : MG} {is vs : List Nat} {mt : MB} {me : ME} {mi : MI} (hw : wi = RdI G tk cl W mi) (gg : GOk G tk is t g) (his : ∀ i ∈ is, i ∈ vs) {σ : L2.St} {H : Hp} {Q : VK} (h : RdE G tk cl W (mLc vs g mt me mi) σ H Q) :
    tLc wi t (RdB G tk cl W0 mt) (RdE G tk cl W0 me) vs σ H Q := by
  subst hw
  obtain ⟨ι, env, S, r, s, k⟩ := h
  rw [mLc_eq] at k
  refine ⟨ι, env, S, r, s, (KE.bind (R1 := RI G) k).imp fun J H1 ⟨src, ι1, S1, e1, s1, it, k1⟩ D hD => ?_⟩
  have r1 := (r.ext e1).wipe vs
  have n1 : ∀ i, i < S1.length → ι1 i ≠ D := fun i hi z => by
    obtain ⟨_, _, _, q, _⟩ := s1.at hi
    rw [z, hD] at q; cases q
  generalize hE : (fun c d H => W c d σ H : XK) = E at k1
  clear k
  refine ⟨fun i m H => ∃ ι S acc vs', ERel G tk H ι S.length (wipe σ vs) (wipeE env vs) ∧ SRel G H ι S ∧ Ext H1 ι1 S1.length H ι S.length ∧ H D = some (.lst vs') ∧ (∀ j, j < S.length → ι j ≠ D) ∧ Reps G.K G.ga H ι S.length acc vs' ∧
    KE G E H1 ι1 S1.length (bndN (lcN cl g mt me src (wipeE env vs) m i S) fun ys S3 => if (acc ++ ys).length ≤ 16777216 then .ok (.lst S3.length) (S3 ++ [.lst (acc ++ ys)]) else .err) (RV G) Q,
    ⟨_, ι1, S1, [], [], r1.ext (ext_new hD (fun _ _ => rfl) (Nat.le_refl _)), s1.laid hD, ext_new hD (fun _ _ => rfl) (Nat.le_refl _), upd_same, n1, .nil, k1⟩, ?_⟩
  rintro i m H ⟨ι, S, acc, vs', r, s, e, hL, hn, ra, k⟩
  cases m with
  | zero => exact k.elim
  | succ m =>
    rw [lcN] at k
    cases en : nthS src i S with
    | none => rw [en] at k; exact k.elim
    | some o =>
      rw [en] at k
      cases o with
      | none =>
        refine .inl ⟨it.stop i H ι S e s en, ?_⟩
        dsimp only [bndN] at k
        rw [List.append_nil] at k
        by_cases hz : acc.length ≤ 16777216
        · rw [if_pos hz] at k
          refine k (.ref D) H (ixUp ι S.length D) ?_ (s.adopt hL hn ra) ?_
          · rw [List.length_append, List.length_singleton]
            refine ⟨⟨e.tup, e.frz, e.ext, fun j hj => ?_, Nat.le_trans e.le (Nat.le_succ _)⟩, fun a us h k => ?_⟩
            · rw [ixUp_lt (Nat.lt_of_lt_of_le hj e.le)]; exact e.ix j hj
            · obtain ⟨h1, h2⟩ := e.oth a us h k
              refine ⟨h1, fun j hj => ?_⟩
              by_cases ej : j = S.length
              · rw [ej, ixUp_eq]; exact fun z => by rw [z, h] at hD; cases hD
              · rw [ixUp_lt (by omega)]; exact h2 j (by omega)
          · refine rep_lst.mpr ⟨by rw [ixUp_eq], by rw [List.length_append, List.length_singleton]; exact Nat.lt_succ_self _⟩
        · rw [if_neg hz] at k; exact k.elim
      | some x =>
        obtain ⟨g1, g2⟩ := it.go i H ι S x e s en
        dsimp only at k
        cases eg : g x (wipeE env vs) with
        | none => rw [eg] at k; exact k.elim
        | some env1 =>
          rw [eg] at k
          dsimp only at k
          refine .inr ⟨g1, fun H => ∃ ι S acc vs', ERel G tk H ι S.length (wipe σ vs) (wipeE env vs) ∧ SRel G H ι S ∧ Ext H1 ι1 S1.length H ι S.length ∧ H D = some (.lst vs') ∧ (∀ j, j < S.length → ι j ≠ D) ∧ Reps G.K G.ga H ι S.length acc vs' ∧
            KE G E H1 ι1 S1.length (bndN (lcN cl g mt me src (wipeE env vs) m (i + 1) S) fun ys S3 => if (acc ++ ys).length ≤ 16777216 then .ok (.lst S3.length) (S3 ++ [.lst (acc ++ ys)]) else .err) (RV G) Q, fun H' h => ⟨m, Nat.lt_succ_self _, h⟩, fun u H' y => ?_⟩
          obtain ⟨e2, s2, r2⟩ := g2 u H' y
          refine gg.run (r.ext e2) r2 eg fun σ2 rg w2 => ⟨by rw [w2 vs his]; exact wipe_wipe, ι, env1, S, rg, s2, ?_⟩
          have k2 : KE G E H1 ι1 S1.length (bndN (mt cl env1 S) fun c S4 => bndN (match c with
              | false => lcN cl g mt me src (wipeE env vs) m (i + 1) S4
              | true => bndN (me cl env1 S4) fun y S2 => bndN (lcN cl g mt me src (wipeE env vs) m (i + 1) S2) fun ys S3 => .ok (y :: ys) S3) fun ys S3 => if (acc ++ ys).length ≤ 16777216 then .ok (.lst S3.length) (S3 ++ [.lst (acc ++ ys)]) else .err) (RV G) Q := by
            cases et : mt cl env1 S with
            | ok c S4 => rw [et] at k; exact k
            | exc c p S4 => rw [et] at k; exact k
            | err => rw [et] at k; exact k
          refine (KE.bindN (R1 := RB) k2).imp fun b H3 ⟨b', ι3, S3, e3, s3, rb, k3⟩ => ?_
          subst rb
          obtain ⟨hL2, hn2⟩ := e2.oth D _ hL hn
          obtain ⟨hL3, hn3⟩ := e3.oth D _ hL2 hn2
          have r3 := (r.ext e2).ext e3
          have ra3 := (ra.ext e2).ext e3
          cases b' with
          | false =>
            rw [if_neg Bool.false_ne_true]
            exact ⟨ι3, S3, acc, vs', r3, s3, (e.trans e2).trans e3, hL3, hn3, ra3, k3⟩
          | true =>
            rw [if_pos rfl]
            dsimp only at k3
            have k4 : KE G E H1 ι1 S1.length (bndN (me cl env1 S3) fun y S2 => bndN (bndN (lcN cl g mt me src (wipeE env vs) m (i + 1) S2) fun ys S3 => .ok (y :: ys) S3) fun ys S3 => if (acc ++ ys).length ≤ 16777216 then .ok (.lst S3.length) (S3 ++ [.lst (acc ++ ys)]) else .err) (RV G) Q := by
              cases et : me cl env1 S3 with
              | ok c S4 => rw [et] at k3; exact k3
              | exc c p S4 => rw [et] at k3; exact k3
              | err => rw [et] at k3; exact k3
            refine ⟨ι3, env1, S3, rg.ext e3, s3, (KE.bindN (R1 := RV G) k4).imp fun z H4 ⟨y', ι4, S4, e4, s4, ry, k5⟩ => ?_⟩
            obtain ⟨hL4, hn4⟩ := e4.oth D _ hL3 hn3
            have ra4 := ra3.ext e4
            have k6 : ∃ ys S5, lcN cl g mt me src (wipeE env vs) m (i + 1) S4 = .ok ys S5 ∧ (acc ++ (y' :: ys)).length ≤ 16777216 := by
              cases el : lcN cl g mt me src (wipeE env vs) m (i + 1) S4 with
              | ok ys S5 =>
                rw [el] at k5
                dsimp only [bndN] at k5
                refine ⟨ys, S5, rfl, ?_⟩
                by_cases hz : (acc ++ (y' :: ys)).length ≤ 16777216
                · exact hz
                · rw [if_neg hz] at k5; exact k5.elim
              | exc c p S5 => rw [el] at k5; exact k5.elim
              | err => rw [el] at k5; exact k5.elim
            obtain ⟨ys, S5, el, hz⟩ := k6
            refine ⟨vs', hL4, ?_, ?_⟩
            · rw [ra4.len, sizeLine_eq]
              rw [List.length_append, List.length_cons] at hz
              omega
            · obtain ⟨s5, x5⟩ := s4.other (ws := vs' ++ [z]) hL4 hn4
              refine ⟨ι4, S4, acc ++ [y'], vs' ++ [z], (r3.ext e4).ext0 x5, s5, ?_, upd_same, hn4, (ra4.app (.cons ry .nil)).ext0 x5, ?_⟩
              · have e6 := ((e.trans e2).trans e3).trans e4
                refine ⟨⟨fun a xs h => x5.tup _ _ (e6.tup a xs h), fun a o u h => x5.frz _ _ _ (e6.frz a o u h), fun a φ h => x5.ext _ _ (e6.ext a φ h), e6.ix, e6.le⟩, fun a us h k => ?_⟩
                obtain ⟨h1, h2⟩ := e6.oth a us h k
                exact ⟨by rw [upd_ne (fun q => by rw [q, hD] at h; cases h)]; exact h1, h2⟩
              · rw [el] at k5 ⊢
                dsimp only [bndN] at k5 ⊢
                rw [List.append_assoc]
                exact k5
theorem re_lc {elt tg iter : Expr} {ifs : List Expr} {scope : Scope} {own : List (Str × Nat)} {pos : Pos} {t : TG} {g : MG} {is : List Nat} {mt : MB} {me : ME} {mi : MI} (hc : X.calm = true) (hN : X.N.Nodup) (hi : PI X tg iter (RdI G tk cl W mi)) (ok : BlkOk X.N X.env.scope scope own) (gg : GOk G tk is t g) (his : ∀ i ∈ is, i ∈ own.map (·.2))
    (hg : ∀ (s : Shared) (H : Hp) (C : Addr) (cl : List (Str × Addr)) (fp : List Addr), PG (X.blk s H scope (compEnvC scope cl C X.env) fp) tg t) (ht : ∀ (s : Shared) (H : Hp) (C : Addr) (l : List (Str × Addr)) (fp : List Addr), PTs (X.blk s H scope (compEnvC scope l C X.env) fp) ifs (RdB G tk cl W0 mt))
    (he : ∀ (s : Shared) (H : Hp) (C : Addr) (l : List (Str × Addr)) (fp : List Addr), PE (X.blk s H scope (compEnvC scope l C X.env) fp) elt (RdE G tk cl W0 me)) (hs : ∀ x, foldedSetIterable iter X.env x = pure x) :
    PE X (.ListComp elt [⟨tg, iter, ifs, 0⟩] scope pos) (RdE G tk cl W (mLc (own.map (·.2)) g mt me mi)) := PE.imp (pe_lc hc hN hi ok hg ht he hs) fun _ _ _ h => lc_read rfl gg his h
end
end Mi

set_option Elab.async false
set_option linter.all false
set_option maxRecDepth 100000
set_option maxHeartbeats 2000000
namespace Mi
open PySem PySem.Spec PyProof.Rows L2 HotX L2H

/-! ### while an exception is handled -/
section
variable {prog : Program} {w : World} {A : Around} {E : Value → Shared → Prop} {s : Shared}
theorem hot_ne {x y : Addr} {h : Heap} {o : Obj} {us : Array Value} (hot : HotAt A x h) (ho : h.get? y = some o) (hd : o.data = .fields us) (hn : us[2]? = none) : x ≠ y := fun e => by
  obtain ⟨_, o1, v1, h1, d1, c1⟩ := hot
  rw [e, ho] at h1
  cases h1
  rw [hd] at d1
  cases d1
  rw [hn] at c1
  cases c1
theorem hot_up {x y : Addr} {h : Heap} {f : Obj → Obj} (hot : HotAt A x h) (hn : x ≠ y) : HotAt A x (h.update y f) := by
  obtain ⟨hh, o1, v1, h1, d1, c1⟩ := hot
  exact ⟨hh, o1, v1, by rw [Heap.get?_update_other _ _ (Ne.symm hn)]; exact h1, d1, c1⟩
theorem hot_push {x : Addr} {h : Heap} {o : Obj} (hot : HotAt A x h) : HotAt A x (h.push o) := by
  obtain ⟨hh, o1, v1, h1, d1, c1⟩ := hot
  exact ⟨hh, o1, v1, Heap.get?_push_of_some _ h1, d1, c1⟩
theorem hot_lt {x : Addr} {h : Heap} (hot : HotAt A x h) : x < h.objs.size := let ⟨_, _, _, h1, _⟩ := hot; Heap.lt_size h1
theorem hot_ext {x y : Addr} {h h' : Heap} (hot : HotAt A x h) (k : Heap.ExtBut y h h') (hn : x ≠ y) : HotAt A x h' := by
  obtain ⟨hh, o1, v1, h1, d1, c1⟩ := hot
  exact ⟨hh, o1, v1, k x o1 hn h1, d1, c1⟩
/-- the StopIteration that ends a walk -/
theorem stopH {α : Type} {x1 it : Addr} {f : Obj → Obj} {A' : Around} {Q : α → Shared → Prop} {E' : Value → Shared → Prop} (hot : HotAt A' x1 s.heap) (hne : x1 ≠ it)
    (hE : ∀ (a : Addr) (h' : Heap), Heap.ExtBut it s.heap h' → (∃ o, h'.get? a = some o ∧ o.cls = .type "StopIteration") → E' (.ref a) { s with heap := h' }) :
    wpAny (model prog w) A' (Builtin.SmallTypes.stopIteration : Sem α) Q E' { s with heap := s.heap.update it f } := by
  show wpAny _ _ (newExc (.type "StopIteration") [] >>= _) _ _ _
  refine wpAny_bind ?_
  simp only [newExc, newTuple]
  refine wpAny_bind (wpAny_newObj_type ?_ (by size_fits))
  refine wpAny_bind (m := firstArgMember _ _) (wpAny_of_eq (a := Value.none) (by first | rfl | (simp only [firstArgMember]; rfl)) ?_)
  refine wpAny_newObj_type ?_ (by size_fits)
  have hot2 := hot_up (f := f) hot hne
  refine raiseNew_hot (hot_push (hot_push hot2)) (Nat.ne_of_lt (hot_lt (hot_push hot2))) (Heap.get?_push_size _ rfl) rfl (by first | (simp; done) | (simp; omega) | (simp only [Array.size_append]; simp; omega)) ?_
  refine hE _ _ (fun b o hb e => ?_) ⟨_, Heap.get?_update_self _ (Heap.get?_push_size _ rfl) rfl, rfl⟩
  have e1 : (s.heap.update it f).get? b = some o := by rw [Heap.get?_update_other _ _ (Ne.symm hb)]; exact e
  have e2 := Heap.get?_push_of_some { cls := .type "tuple", data := .seq ([] : List Value).toArray } e1
  rw [Heap.get?_update_other _ _ (Nat.ne_of_gt (Heap.lt_size e2))]
  exact Heap.get?_push_of_some _ e2
theorem next_list_endH {x1 it l : Addr} {i : Nat} {items : Array Value} {Q : Option Value → Shared → Prop} (hot : HotAt A x1 s.heap) (hit : s.heap.IsListIter it l i) (hl : s.heap.IsList l items) (hx : items[i]? = none)
    (hQ : ∀ h', Heap.ExtBut it s.heap h' → Q none { s with heap := h' }) : wpAny (model prog w) A (pyNext (.ref it)) Q E s := by
  obtain ⟨o, ho, hc, hd⟩ := id hit
  obtain ⟨ol, hol, _, nl, hdl⟩ := hl
  have hne : x1 ≠ it := hot_ne hot ho hd (by simp)
  unfold pyNext
  refine wpAny_bind (wpAny_attempt (wpAny_callSpecial?_slot (name := Str.ofString "__next__") hit.typeIs slot_listiter_next (wpAny_call_entry slot_listiter_next hit.typeIs entry_listiter_next ?_ (args_listiter_next _))))
  show wpAny _ _ (field (.ref it) 0 >>= _) _ _ s
  refine wpAny_bind (wpAny_field ho hd (x := .ref l) rfl ?_)
  show wpAny _ _ (if (Value.ref l == Value.none) = true then _ else _) _ _ s
  rw [if_neg (show (Value.ref l == Value.none) ≠ true from Bool.false_ne_true)]
  show wpAny _ _ (field (.ref it) 1 >>= _) _ _ s
  refine wpAny_bind (wpAny_field ho hd (x := .int i 0) rfl ?_)
  show wpAny _ _ (seqItems? (.ref l) >>= _) _ _ s
  refine wpAny_bind (wpAny_seqItems hol hdl ?_)
  simp only [Int.toNat_natCast, hx]
  refine wpAny_bind (wpAny_rule (wpAny_bind (wpAny_setField ho hd (by simp) ?_)))
  refine stopH (x1 := x1) (s := s) (it := it) hot hne fun a h' k st => ?_
  exact wpAny_bind (wpAny_isInstance (T := "StopIteration") (b := true) st isSubtype_stop (wpAny_pure (hQ _ k)))
theorem next_tup_endH {x1 it t : Addr} {i : Nat} {items : Array Value} {Q : Option Value → Shared → Prop} (hot : HotAt A x1 s.heap) (hit : IsTupIter s.heap it t i) (ht : IsTup s.heap t items) (hx : items[i]? = none)
    (hQ : ∀ h', Heap.ExtBut it s.heap h' → Q none { s with heap := h' }) : wpAny (model prog w) A (pyNext (.ref it)) Q E s := by
  obtain ⟨o, ho, hc, hd⟩ := id hit
  obtain ⟨ol, hol, _, nl, hdl⟩ := ht
  have hne : x1 ≠ it := hot_ne hot ho hd (by simp)
  unfold pyNext
  refine wpAny_bind (wpAny_attempt (wpAny_callSpecial?_slot (name := Str.ofString "__next__") hit.typeIs slot_tupleiter_next (wpAny_call_entry slot_tupleiter_next hit.typeIs entry_tupleiter_next ?_ (args_tupleiter_next _))))
  show wpAny _ _ (field (.ref it) 0 >>= _) _ _ s
  refine wpAny_bind (wpAny_field ho hd (x := .ref t) rfl ?_)
  show wpAny _ _ (if (Value.ref t == Value.none) = true then _ else _) _ _ s
  rw [if_neg (show (Value.ref t == Value.none) ≠ true from Bool.false_ne_true)]
  show wpAny _ _ (field (.ref it) 1 >>= _) _ _ s
  refine wpAny_bind (wpAny_field ho hd (x := .int i 0) rfl ?_)
  show wpAny _ _ (seqItems? (.ref t) >>= _) _ _ s
  refine wpAny_bind (wpAny_seqItems hol hdl ?_)
  simp only [Int.toNat_natCast, hx]
  refine wpAny_bind (wpAny_rule (wpAny_bind (wpAny_setField ho hd (by simp) ?_)))
  refine stopH (x1 := x1) (s := s) (it := it) hot hne fun a h' k st => ?_
  exact wpAny_bind (wpAny_isInstance (T := "StopIteration") (b := true) st isSubtype_stop (wpAny_pure (hQ _ k)))
theorem unpackH {x1 t : Addr} {items : Array Value} {Q : List Value → Shared → Prop} (hot : HotAt A x1 s.heap) (ht : IsTup s.heap t items) (hQ : ∀ h', Heap.ExtBut s.heap.objs.size s.heap h' → Q items.toList { s with heap := h' }) :
    wpAny (model prog w) A (unpackItems (.ref t) items.size none) Q E s := by
  have hlt : t ≠ s.heap.objs.size := by obtain ⟨o, ho, _⟩ := ht; exact Nat.ne_of_lt (Heap.lt_size ho)
  have hxl : x1 ≠ s.heap.objs.size := Nat.ne_of_lt (hot_lt hot)
  unfold unpackItems notIterableAtAll
  refine wpAny_bind (wpAny_bind (wpAny_specialOf ht.typeIs slot_tuple_iter.lookup (wpAny_pure ?_)))
  simp only [Bool.false_eq_true, if_false]
  refine wpAny_bind (wpAny_holding (iter_tuple ht ?_))
  refine wpAny_bind (wpAny_holding (draw_tuple hlt items.size 0 _ _ ⟨_, Heap.get?_push_size _ rfl, rfl, rfl⟩ (ht.push _) (by omega) fun h1 hit1 hs1 => ?_))
  have hall : List.take items.size (List.drop 0 items.toList) = items.toList := by rw [List.drop_zero]; exact List.take_of_length_le (by simp)
  rw [hall, if_neg (by simp)]
  have ht1 : IsTup h1 t items := (ht.push _).extBut hs1.extBut hlt
  refine wpAny_bind (wpAny_holding (next_tup_endH (s := { s with heap := h1 }) (hot_ext (hot_push hot) hs1.extBut hxl) hit1 ht1 (by simp) fun h2 he2 => ?_))
  simp only [Option.isSome_none, Bool.false_eq_true, if_false]
  exact wpAny_pure (hQ h2 fun b o hb e => he2 b o hb (hs1.extBut b o hb (Heap.get?_push_of_some _ e)))
end
section
variable {X : Cx} {pos : Pos}
theorem pg_tupH {es : List Expr} {k : Nat} {t : TGs} {n : Nat} (hc : HotC X) (h : PGs X es t) (hn : (assignEach es X.env).length = n) (hst : (assignEach es X.env).findIdx? (·.1) = none) : PG X (.Tuple es k pos) (gTup X.K n t) := by
  refine ⟨fun pins s σ H v u Q I r hw => ?_⟩
  obtain ⟨a, xs, rfl, hq, hl, hw⟩ := hw
  cases r
  obtain ⟨its, rv, ht, hz⟩ := I.tuple hq
  obtain ⟨x1, hot⟩ := hc.at I
  rw [assign_Tuple]
  refine wpAny_bind (wpAny_standAt ?_)
  have hsz : (assignEach es X.env).length = its.toArray.size := by simp [hn, ← hl, rv.length]
  unfold unpack
  rw [hsz, hst]
  refine wpAny_bind (wpAny_holding (unpackH hot (show IsTup s.heap a its.toArray from ht) fun h' hx => ?_))
  have I1 : Inv X pins σ H { s with heap := h' } := I.kept (t' := s.toks) fun b o e => hx b o (Nat.ne_of_lt (Heap.lt_size e)) e
  exact h.run pins _ σ H xs _ Q I1 (by simpa using rv) hw
end
theorem turn_listH {P : Program} {w : World} {K : PySem.W.Frag} {tg : Expr} (a it : Addr) : TurnH P w K tg (Itl K a) [it] it (fun i h => h.IsListIter it a i) where
  mem := by simp
  obj := fun i h st b hb => by
    have e : b = it := by simpa using hb
    rw [e]
    obtain ⟨o, q, c, d⟩ := st
    exact ⟨o, q, fun v z => by rw [d] at z; cases z⟩
  keep := fun i h h' st k => st.at fun o e => k it (by simp) o e
  item := by
    intro X hP hw hK hc i pins s σ H E I hf st hg
    subst hP hw hK
    obtain ⟨xs, x, hq, hx⟩ := hg
    obtain ⟨its, rv, p, hz⟩ := I.list hq
    obtain ⟨u, hu, ru⟩ := rv.get hx
    have ⟨f0, f1, f2, f3, f4, f5⟩ := hf it (by simp)
    refine wpAny_pyNext_list_item st p.isList (x := u) (by simpa using hu) fun h' st' sb => ?_
    have J : Inv X pins σ H { s with heap := h' } := I.turned (t' := s.toks) (fun b o hb e => (sb.2 b hb).trans e) f0 f1 f3 f4 f5
    obtain ⟨o, e, c, d⟩ := id st'
    exact ⟨u, rfl, go_of (s := { s with heap := h' }) e c d (by decide) ⟨x, H, J, ru, ⟨rfl, fun ys hy => by rw [I.list_inj hy hq]; exact hx⟩, st', fun b hb => (hf b hb).1⟩⟩
  done := by
    intro X hP hw hK hc i pins s σ H E I hf st hg
    subst hP hw hK
    obtain ⟨xs, hq, hx⟩ := hg
    obtain ⟨its, rv, p, hz⟩ := I.list hq
    have ⟨f0, f1, f2, f3, f4, f5⟩ := hf it (by simp)
    have hl := rv.length
    obtain ⟨x1, hot⟩ := hc.at I
    exact next_list_endH hot st p.isList (by simp; omega) fun h' eb => ⟨rfl, I.turned (t' := s.toks) (fun b o hb e => eb b o hb e) f0 f1 f3 f4 f5⟩
  self := fun _ _ _ _ _ st h => wpAny_pyIter_listiter st h
theorem pi_listH {X : Cx} {tg l : Expr} {tl : TE} (hl : PE X l tl) : PIH X tg l (iList X.K tl) := by
  refine ⟨fun pins s σ H R I h => ?_⟩
  refine thn (hl.run pins s σ H _ I h) fun v s1 ⟨x, H1, J, r1, a, e, ⟨xs, hq⟩, q⟩ => ?_
  subst e
  cases r1
  obtain ⟨its, rv, p, hz⟩ := J.list hq
  refine wpAny_pyIter_list p.isList ⟨s1.heap.objs.size, [s1.heap.objs.size], _, _, H1, rfl, J.kept (t' := s1.toks) fun b o e => Heap.get?_push_of_some _ e, turn_listH a _, ⟨_, Heap.get?_push_size _ rfl, rfl, rfl⟩, fun b hb => ?_, q⟩
  have e : b = s1.heap.objs.size := by simpa using hb
  rw [e]
  exact J.fpOk (Nat.le_refl _) (J.hok.fresh (Nat.le_refl _))

/-- a block's context that bears the handled exception -/
abbrev blkH (X : Cx) (s : Shared) (H : Hp) (scope : Scope) (cenv : PySem.Env) (fp : List Addr) : Cx := { X.blk s H scope cenv fp with pn := X.pn }
theorem okRepin {X : Cx} (ok : X.Ok) (pn : List (Addr × Obj)) : ({ X with pn := pn } : Cx).Ok :=
  ⟨ok.mod, ok.kind, ok.glob, ok.blt, ok.above, ok.inj, ok.has, ok.cab, ok.hd, ok.frames, ok.stk, ok.exf, ok.bs, ok.bsz, ok.noex, ok.exfs, ok.funs, ok.frf⟩
section
variable {X : Cx}
theorem pe_lcH {elt tg iter : Expr} {ifs : List Expr} {scope : Scope} {own : List (Str × Nat)} {pos : Pos} {wi : TI} {g : TG} {tt : TT} {te : TE} (hc : HotC X) (hN : X.N.Nodup) (hi : PIH X tg iter wi) (ok : BlkOk X.N X.env.scope scope own)
    (hg : ∀ (s : Shared) (H : Hp) (C : Addr) (cl : List (Str × Addr)) (fp : List Addr), PG (blkH X s H scope (compEnvC scope cl C X.env) fp) tg g) (ht : ∀ (s : Shared) (H : Hp) (C : Addr) (cl : List (Str × Addr)) (fp : List Addr), PTs (blkH X s H scope (compEnvC scope cl C X.env) fp) ifs tt)
    (he : ∀ (s : Shared) (H : Hp) (C : Addr) (cl : List (Str × Addr)) (fp : List Addr), PE (blkH X s H scope (compEnvC scope cl C X.env) fp) elt te) (hs : ∀ x, foldedSetIterable iter X.env x = pure x) : PE X (.ListComp elt [⟨tg, iter, ifs, 0⟩] scope pos) (tLc wi g tt te (own.map (·.2))) := by
  refine ⟨fun pins s σ H Q I h => ?_⟩
  rw [eval_ListComp]
  have hfree : ∀ y ∈ scope.names, y.2 = .free → ∃ c, X.env.cells.lookup y.1 = some c := fun y hy e => (ok.free y hy e).elim (fun k => I.ok.has _ (.inl k)) fun k => I.ok.has _ (.inr k)
  refine wpAny_comprehension_free (use := none) rfl hs (closure_ok hfree) ok.kind (fun y hy e => by rw [ok.uniq y hy, e]) (thn (hi.run pins s σ H _ I h) fun xv t1 hx => thn hx fun itv t2 h2 => ?_)
  obtain ⟨it, fp, tn, J, H2, e, I2, T, st2, f2, q⟩ := h2
  subst e
  refine wpAny_newObj_type (newEnv_comp ?_) (by show 0 ≤ sizeLine; decide)
  generalize hD : t2.heap.objs.size = D
  have hDn : H2 D = none := I2.hok.fresh (Nat.le_of_eq hD)
  obtain ⟨W, ⟨m0, w0⟩, turn⟩ := q D hDn
  generalize ht3 : ({ t2 with heap := t2.heap.push { cls := .type "list", data := .seq ([] : List Value).toArray } } : Shared) = t3
  have h3 : t3.heap = t2.heap.push { cls := .type "list", data := .seq ([] : List Value).toArray } := by rw [← ht3]
  have J3 : Inv X pins σ (upd H2 D (.lst [])) t3 := by
    rw [← ht3]
    refine I2.laid (t' := t2.toks) (fun b o e => Heap.get?_push_of_some _ e) (Nat.le_of_eq hD) ⟨Nat.zero_le _, [], 0, .nil, ?_⟩
    rw [← hD]
    exact Heap.get?_push_size _ rfl
  have sz : ∀ b ∈ fp, b < t2.heap.objs.size := fun b hb => let ⟨o, e, _⟩ := T.obj _ _ st2 b hb; Heap.lt_size e
  have f3 : ∀ b ∈ fp, FpOk X pins (upd H2 D (.lst [])) b ∧ b < t3.heap.objs.size := fun b hb => by
    have hlt := sz b hb
    refine ⟨⟨?_, (f2 b hb).2⟩, by rw [h3, Heap.size_push]; exact Nat.lt_succ_of_lt hlt⟩
    rw [upd_ne (by rw [← hD]; exact Nat.ne_of_lt hlt)]
    exact (f2 b hb).1
  have st3 : tn 0 t3.heap := T.keep _ _ _ st2 fun b _ o e => by rw [h3]; exact Heap.get?_push_of_some _ e
  have B4 := block_start J3 ok hN f3
  generalize hcl : cellsFrom (t3.heap.objs.size + 1) scope.names (cloFrom X.env.cells scope.names []) = cl at B4
  have pg := hg t3 (upd H2 D (.lst [])) t3.heap.objs.size cl fp
  have pt := ht t3 (upd H2 D (.lst [])) t3.heap.objs.size cl fp
  have pe := he t3 (upd H2 D (.lst [])) t3.heap.objs.size cl fp
  show codeAny _ _ (.compStart (.ListComp elt [⟨tg, iter, ifs, 0⟩] scope pos) 0 (.ref it) (.ref D) (compEnvC scope cl t3.heap.objs.size X.env)) (compPost (model X.prog X.w) X.A X.xe none (EP X pins σ Q) (.ref D) t3.heap.objs.size) { t3 with heap := pushCells (t3.heap.push { cls := .type "dict", data := .dict #[] }) scope.names }
  have nfp : ∀ b ∈ fp, (upd H2 D (.lst [])) b = none := fun b hb => (f3 b hb).1.1
  generalize hce : compEnvC scope cl t3.heap.objs.size X.env = ce at B4 pg pt pe ⊢
  have cL : ce.locals = t3.heap.objs.size := by subst hce; rfl
  generalize hH3 : upd H2 D (.lst []) = H3 at J3 B4 pg pt pe w0 nfp f3
  generalize ht4 : ({ t3 with heap := pushCells (t3.heap.push { cls := .type "dict", data := .dict #[] }) scope.names } : Shared) = t4 at B4 ⊢
  have kp : ∀ b o, t3.heap.get? b = some o → t4.heap.get? b = some o := fun b o e => by rw [← ht4]; exact pushCells_keeps _ _ _ _ (Heap.get?_push_of_some _ e)
  have st4 : tn 0 t4.heap := T.keep _ _ _ st3 fun b _ o e => kp b o e
  have I4 : Inv (blkH X t3 H3 scope ce fp) [] (wipe σ (own.map (·.2))) H3 t4 := ⟨okRepin B4.ok X.pn, B4.os, B4.bare, B4.base, B4.loc, B4.cell, B4.free, B4.freeC, fun p hp => by
    have hp' : p ∈ X.pn := by simpa using hp
    obtain ⟨e1, e2, e3, e4, e5⟩ := J3.pin p (List.mem_append_left _ hp')
    refine ⟨kp _ _ e1, e2, ?_, fun hm => ?_, e5⟩
    · show p.1 ≠ ce.locals
      rw [cL]; exact Nat.ne_of_lt (Heap.lt_size e1)
    · rcases List.mem_cons.mp (J3.stkSub _ hm) with z | z
      · exact e3 z
      · exact e4 z, B4.hok, B4.len⟩
  have stat : ∀ {τ : L2.St} {H' : Hp} {s' : Shared}, Inv (blkH X t3 H3 scope ce fp) [] τ H' s' → (∀ b ∈ fp, H' b = none) → ∀ b ∈ fp, FpOk (blkH X t3 H3 scope ce fp) [] H' b := fun {τ H' s'} I' hn b hb =>
    ⟨hn b hb, (I'.ok.exf b hb).1, I'.ok.exfs b hb, .inl hb, fun x c e => (I'.ok.exf b hb).2 x c e, fun p hp => (f3 b hb).1.2.2.2.2.2 p (List.mem_append_left _ (by simpa using hp))⟩
  have hcb : HotC (blkH X t3 H3 scope ce fp) := hc
  have loop : codeAny (model X.prog X.w) X.A (.compLoop (.ListComp elt [⟨tg, iter, ifs, 0⟩] scope pos) 0 (.ref it) (.ref D) ce) (compPost (model X.prog X.w) X.A X.xe none (EP X pins σ Q) (.ref D) t3.heap.objs.size) t4 := by
    refine compLoop_any (fun n s' => ∃ i H', Inv (blkH X t3 H3 scope ce fp) [] (wipe σ (own.map (·.2))) H' s' ∧ tn i s'.heap ∧ (∀ b ∈ fp, H' b = none) ∧ W i n H') ?_ m0 ⟨0, H3, I4, st4, nfp, w0⟩
    rintro n t5 ⟨i, H5, I5, st5, n5, w5⟩
    rcases turn i n H5 w5 with ⟨stop, qq⟩ | ⟨go, Nx, hNx, step⟩
    · refine thnF (T.done (blkH X t3 H3 scope ce fp) rfl rfl rfl hcb i [] t5 _ H5 (fun _ _ => False) I5 (stat I5 n5) st5 stop) fun r t6 ⟨hr, I6⟩ => ?_
      subst hr
      have I7 : Inv X pins σ H5 t6 := J3.call' (ch := fp) I6.os I6.base I6.hok I6.bare fun b hb => ⟨(f3 b hb).1.2.2.2.1, (f3 b hb).1.2.1, (f3 b hb).1.2.2.2.2.1, (f3 b hb).1.2.2.2.2.2⟩
      have nC : H5 t3.heap.objs.size = none := by
        have z : H5 ce.locals = none := I6.free
        rw [cL] at z
        exact z
      obtain ⟨m, hn, _⟩ := I6.loc
      have hn : t6.heap.Ns ce.locals m := hn
      rw [cL] at hn
      refine ⟨m, hn, fun h'' sb => ?_⟩
      obtain ⟨f0, f1, f2, f3, f4, f5⟩ := J3.fpOk (Nat.le_refl _) nC
      exact ⟨.ref D, H5, I7.turned (t' := t6.toks) (fun b o hb e => (sb.2 b hb).trans e) f0 f1 f3 f4 f5, rfl, qq⟩
    · refine thnF (T.item (blkH X t3 H3 scope ce fp) rfl rfl rfl hcb i [] t5 _ H5 (fun _ _ => False) I5 (stat I5 n5) st5 go) fun r t6 ⟨u, hr, h6⟩ => ?_
      subst hr
      refine thnF h6 fun _ t7 ⟨x, H7, I7, r7, y7, st7, n7⟩ => ?_
      have P7 := I7.pinned (stat I7 n7) (T.obj _ _ st7)
      refine thnF (pg.run _ t7 _ H7 x u _ P7 r7 (step x H7 y7)) fun _ t8 ⟨σ8, H8, I8, hw8, q8⟩ => ?_
      refine thnF (pt.run _ t8 σ8 H8 _ I8 q8) fun b t9 ⟨H9, I9, q9⟩ => ?_
      have fin : ∀ {s' : Shared} {H' : Hp}, Inv (blkH X t3 H3 scope ce fp) ([] ++ pinsAt fp t7.heap) σ8 H' s' → Nx H' → ∃ m, m < n ∧ ∃ i H', Inv (blkH X t3 H3 scope ce fp) [] (wipe σ (own.map (·.2))) H' s' ∧ tn i s'.heap ∧ (∀ b ∈ fp, H' b = none) ∧ W i m H' := fun {s' H'} I' nx => by
        obtain ⟨m', hm, w'⟩ := hNx H' nx
        have pin' : ∀ b ∈ fp, ∀ o, t7.heap.get? b = some o → s'.heap.get? b = some o ∧ H' b = none := fun b hb o e => let z := I'.pin (b, o) (List.mem_append_right _ (List.mem_append_right _ (mem_pinsAt hb e))); ⟨z.1, z.2.1⟩
        have hl : (wipe σ (own.map (·.2))).length = σ8.length := by rw [← hw8, wipe_length]
        refine ⟨m', hm, i + 1, H', (I'.unpinned (pins := [])).weak hl (fun j v e => ?_), T.keep _ _ _ st7 fun b hb o e => (pin' b hb o e).1, fun b hb => ?_, w'⟩
        · rw [← hw8] at e
          exact (wipe_some e).1
        · obtain ⟨o, e, _⟩ := T.obj _ _ st7 b hb
          exact (pin' b hb o e).2
      cases b with
      | false =>
        simp only [Bool.false_eq_true, if_false] at q9 ⊢
        exact fin I9 q9
      | true =>
        simp only [if_true] at q9 ⊢
        refine thnF (pe.run _ t9 σ8 H9 _ I9 q9) fun z t10 ⟨yv, H10, I10, r10, acc, hD10, hz10, nx⟩ => ?_
        exact app_ok (X := blkH X t3 H3 scope ce fp) I10 hD10 hz10 r10 fun t11 I11 => fin I11 nx
  exact codeAny_compStart_list loop (T.self X.A 0 _ _ _ st4 loop)
end
end Mi

set_option Elab.async false
set_option linter.all false
set_option maxRecDepth 100000
set_option maxHeartbeats 2000000
namespace Mi
open PySem PySem.Spec PyProof.Rows L2

/-! ### calls of defs -/
def mCall (j : Nat) (as : MA) : ME := fun cl env S => bnd (as cl env S) fun xs S1 => cl.call j xs S1
def mCallV (isF : Nat → Bool) (i : Nat) (as : MA) : ME := fun cl env S => match env[i]? with
  | some (.pv (.g j)) => match isF j with
    | true => bnd (as cl env S) fun xs S1 => cl.call j xs S1
    | false => .err
  | _ => .err
def mAct (i : Nat) : ME := fun cl env S => match env[i]? with
  | some .cl => cl.act S
  | _ => .err
def spF (G : Gc) (c : Call) (j : Nat) : Sp := fun vs H Q E => ∃ ι S args, SRel G H ι S ∧ Reps G.K G.ga H ι S.length args vs ∧ KE G E H ι S.length (c j args S) (RV G) Q
def FnAt (G : Gc) (P : Program) (w : World) (mg : Str → Option Value) (base : Heap) (k : Nat) (c : Call) (j : Nat) : Prop :=
  ∃ (fd : FuncData) (ps : List Str), FnOk P w G.K mg base (L2N.CX P w) k (G.ga j) fd ps (spF G c j) ∧ PySem.W.keepIn G.K (.ref (G.ga j)) = true ∧ Binds G.K fd ps []
section
variable {G : Gc} {tk : Tks} {cl : Cl} {W : WX} {X : Cx} {k : Nat}
theorem call_read {j : Nat} {ma : MA} {σ : L2.St} {H : Hp} {Q : VK} (h : RdE G tk cl W (mCall j ma) σ H Q) : tCallS (spF G cl.call j) (WE W) (RdA G tk cl W ma) σ H Q := by
  obtain ⟨ι, env, S, r, s, q⟩ := h
  exact ⟨ι, env, S, r, s, (KE.bind (R1 := RVs G) q).imp fun vs H1 ⟨v, ι1, S1, e1, s1, r1, q1⟩ => ⟨ι1, S1, v, s1, r1, q1⟩⟩
theorem re_call {j : Nat} {x : Str} {e : Expr} {es : List Expr} {ma : MA} {p pos : Pos} (hK : X.K = G.K) (F : FnAt G X.prog X.w X.mg X.base k cl.call j) (hr : Room k X.A) (hg : Gl X x) (hm : X.mg x = some (.ref (G.ga j))) (t : L2N.Takes X W) (ha : PA X (e :: es) (RdA G tk cl W ma))
    (hdb : (x == ("__debug__" : Str)) = false) (he : starEach (e :: es) X.env = (false, eval e X.env) :: starEach es X.env) (hpl : (backTo pos (starEach es X.env)).any (·.1) = false) : PE X (.Call (.Name x p) (e :: es) [] pos) (RdE G tk cl W (mCall j ma)) := by
  obtain ⟨fd, ps, F1, F2, F3⟩ := F
  rw [← hK] at F1 F2 F3
  exact PE.imp (pe_callS F1 hr hg hm F2 F3 (fun σ => L2N.passAt t σ) ha hdb he hpl) fun _ _ _ h => call_read h
theorem re_call0 {j : Nat} {x : Str} {p pos : Pos} (hK : X.K = G.K) (F : FnAt G X.prog X.w X.mg X.base k cl.call j) (hr : Room k X.A) (hg : Gl X x) (hm : X.mg x = some (.ref (G.ga j))) (t : L2N.Takes X W)
    (hdb : (x == ("__debug__" : Str)) = false) : PE X (.Call (.Name x p) [] [] pos) (RdE G tk cl W (mCall j aN)) := by
  obtain ⟨fd, ps, F1, F2, F3⟩ := F
  rw [← hK] at F1 F2 F3
  refine ⟨fun pins s σ H Q I h => wpAny_Call_Name_kw (ld_glob I hg hm ?_ hdb)⟩
  obtain ⟨ι, env, S, r, s', q⟩ := h
  exact PySem.W.callWith_K0 I.kIn F2 (run_fnS (us := []) F1 hr F3 (L2N.passAt t σ) I .nil ⟨ι, S, [], s', .nil, q⟩)
theorem re_callV {isF : Nat → Bool} {i : Nat} {x : Str} {e : Expr} {es : List Expr} {ma : MA} {p pos : Pos} (hK : X.K = G.K) (F : ∀ j, isF j = true → FnAt G X.prog X.w X.mg X.base k cl.call j) (hr : Room k X.A) (hN : X.N[i]? = some x) (hv : Vis X.env.scope x) (t : L2N.Takes X W) (ha : PA X (e :: es) (RdA G tk cl W ma))
    (hdb : (x == ("__debug__" : Str)) = false) (hcd : (x == ("__classdict__" : Str)) = false) (he : starEach (e :: es) X.env = (false, eval e X.env) :: starEach es X.env) (hpl : (backTo pos (starEach es X.env)).any (·.1) = false) : PE X (.Call (.Name x p) (e :: es) [] pos) (RdE G tk cl W (mCallV isF i ma)) := by
  refine ⟨fun pins s σ H Q I h => ?_⟩
  obtain ⟨ι, env, S, r, s', q⟩ := h
  simp only [mCallV] at q
  split at q
  · rename_i j en
    cases hj : isF j with
    | false => rw [hj] at q; exact q.elim
    | true =>
      rw [hj] at q
      dsimp only at q
      obtain ⟨fd, ps, F1, F2, F3⟩ := F j hj
      rw [← hK] at F1 F2 F3
      obtain ⟨u, hu, ru⟩ := r.at_ i _ en
      have ru := rep_g.mp ru
      subst ru
      refine wpAny_Call_Name_kw (thn ((pe_var (pos := p) hN hv hdb hcd).run pins s σ H (fun v H1 => v = .ref (G.ga j) ∧ H1 = H) I ⟨.ref (G.ga j), hu, rfl, rfl⟩) fun u s1 ⟨v, H1, I1, r1, q1⟩ => ?_)
      obtain ⟨rfl, rfl⟩ := q1
      cases r1
      refine PySem.W.callWith_K (h₀ := X.base) I.ok.mod.kin F2 (thn (ha.run pos pins s1 σ _ _ I1 ⟨ι, env, S, r, s', (KE.bind (R1 := RVs G) q)⟩) fun us s2 ⟨vs, H2, I2, r2, v, ι1, S1, e1, s1', r1', q1⟩ => ⟨I2.kIn, ?_⟩) he hpl
      exact run_fnS F1 hr F3 (L2N.passAt t σ) I2 r2 ⟨ι1, S1, v, s1', r1', q1⟩
  · exact q.elim
/-! ### calls of built-ins -/
theorem blt_read {g : OL} {ma : MA} {σ : L2.St} {H : Hp} {Q : VK} (h : RdE G tk cl W (mL g ma) σ H Q) : tCB (rOL G g) (RdA G tk cl W ma) σ H Q := by
  obtain ⟨ι, env, S, r, s, q⟩ := h
  exact ⟨ι, env, S, r, s, (KE.bind (R1 := RVs G) q).imp fun vs H1 ⟨v, ι1, S1, e1, s1, r1, q1⟩ => ⟨ι1, S1, v, s1, r1, q1.o⟩⟩
theorem re_blt {id : String} {x : Str} {g : OL} {e : Expr} {es : List Expr} {ma : MA} {p pos : Pos} (hc : CallR X (.builtin id) (rOL G g)) (hg : Gl X x) (hm : X.mg x = none) (hv : bootBuiltins x = some (.builtin id)) (ha : PA X (e :: es) (RdA G tk cl W ma)) (hn : x ≠ "__name__") (hdb : (x == ("__debug__" : Str)) = false)
    (he : starEach (e :: es) X.env = (false, eval e X.env) :: starEach es X.env) (hpl : (backTo pos (starEach es X.env)).any (·.1) = false) : PE X (.Call (.Name x p) (e :: es) [] pos) (RdE G tk cl W (mL g ma)) := PE.imp (pe_callB hc hg hm hv ha hn hdb he hpl) fun _ _ _ h => blt_read h
theorem re_bty {T : String} {x : Str} {g : OL} {e : Expr} {es : List Expr} {ma : MA} {p pos : Pos} (hc : CallR X (.type T) (rOL G g)) (hg : Gl X x) (hm : X.mg x = none) (hv : bootBuiltins x = some (.type T)) (ha : PA X (e :: es) (RdA G tk cl W ma)) (hn : x ≠ "__name__") (hdb : (x == ("__debug__" : Str)) = false)
    (he : starEach (e :: es) X.env = (false, eval e X.env) :: starEach es X.env) (hpl : (backTo pos (starEach es X.env)).any (·.1) = false) : PE X (.Call (.Name x p) (e :: es) [] pos) (RdE G tk cl W (mL g ma)) := PE.imp (pe_callTy hc hg hm hv ha hn hdb he hpl) fun _ _ _ h => blt_read h
theorem re_bfun {id : String} {x : Str} {g : OL} {e : Expr} {es : List Expr} {ma : MA} {p pos : Pos} (hc : CallR X (.builtin id) (rOL G g)) (hg : Gl X x) (hm : X.mg x = some (.builtin id)) (ha : PA X (e :: es) (RdA G tk cl W ma)) (hdb : (x == ("__debug__" : Str)) = false)
    (he : starEach (e :: es) X.env = (false, eval e X.env) :: starEach es X.env) (hpl : (backTo pos (starEach es X.env)).any (·.1) = false) : PE X (.Call (.Name x p) (e :: es) [] pos) (RdE G tk cl W (mL g ma)) := PE.imp (pe_callBfun hc hg hm ha hdb he hpl) fun _ _ _ h => blt_read h

/-! ### isinstance -/
/-- kinds: 0 int, 1 bool, 2 str, 3 tuple, 4 list, 5 None -/
def tyN : PV → Option Nat
  | .non => some 5
  | .bl _ => some 1
  | .int _ => some 0
  | .str _ => some 2
  | .tup _ => some 3
  | .fl _ => some 4
  | .lst _ => some 4
  | .g _ => none
def tyS : Nat → String
  | 0 => "int"
  | 1 => "bool"
  | 2 => "str"
  | 3 => "tuple"
  | 4 => "list"
  | _ => "NoneType"
def isTyN (a b : Nat) : Bool := Nat.beq a b || (Nat.beq a 1 && Nat.beq b 0)
theorem kitN : ∀ a, a < 6 → ∀ b, b < 5 → kitB (tyS a) (tyS b) = some (isTyN a b) := by decide +kernel
theorem tyN_lt {v : PV} {a : Nat} (h : tyN v = some a) : a < 6 := by
  cases v <;> (cases h <;> decide)
def mIsi (b : Nat) (m : ME) : ME := fun cl env S => bnd (m cl env S) fun v S1 => match tyN v with
  | some a => .ok (.bl (isTyN a b)) S1
  | none => .err
theorem tyX_of {H : Hp} {ι : Nat → Addr} {S : Sto} {v : PV} {x : V} {a : Nat} (s : SRel G H ι S) (r : Rep G.K G.ga H ι S.length v x) (h : tyN v = some a) : TyX G.K H x (.type (tyS a)) := by
  cases v with
  | non => cases h; rw [rep_non.mp r]; exact .base .non
  | bl b => cases h; rw [rep_bl.mp r]; exact .base (.bl _)
  | int i => cases h; rw [rep_int.mp r]; exact .base (.int _)
  | str l => cases h; rw [rep_str.mp r]; exact .base (.str _)
  | tup xs =>
    cases h
    obtain ⟨p, vs, rfl, hq, _⟩ := rep_tup.mp r
    rcases hq with (hq | ⟨o, hq⟩) | ⟨o, its, n, hk, hc, _⟩
    · exact .base (.tup hq)
    · exact .fTuple hq
    · exact .kTuple hk hc
  | fl xs =>
    cases h
    simp only [Rep] at r
    obtain ⟨p, vs, rfl, hq, _⟩ := r
    rcases hq with ⟨o, hq⟩ | ⟨o, its, n, hk, hc, _⟩
    · exact .base (.frz hq)
    · exact .kList hk hc
  | lst i =>
    cases h
    obtain ⟨rfl, hi⟩ := rep_lst.mp r
    obtain ⟨_, vs, _, h2, _⟩ := s.at hi
    exact .base (.lst h2)
  | g i => cases h
theorem re_isi {b : Nat} {x t : Str} {e : Expr} {m : ME} {p pos tp : Pos} (hb : b < 5) (hK : X.K = G.K) (hg : Gl X x) (hm : X.mg x = none) (hv : bootBuiltins x = some (.builtin "isinstance")) (hgt : Gl X t) (hmt : X.mg t = none) (hvt : bootBuiltins t = some (.type (tyS b))) (he : PE X e (RdE G tk cl W m))
    (hn : x ≠ "__name__") (hdb : (x == ("__debug__" : Str)) = false) (hnt : t ≠ "__name__") (hdt : (t == ("__debug__" : Str)) = false) (hs : starEach (e :: [.Name t tp]) X.env = (false, eval e X.env) :: starEach [.Name t tp] X.env) :
    PE X (.Call (.Name x p) [e, .Name t tp] [] pos) (RdE G tk cl W (mIsi b m)) :=
  PE.imp (pe_callB call_isi hg hm hv (pa_cons he (pa_cons (pe_bltn (v := .ty (tyS b)) hgt hmt hvt rfl hnt hdt) pa_nil) hs) hn hdb hs) fun σ H Q ⟨ι, env, S, r, s, q⟩ => ⟨ι, env, S, r, s, (KE.bind (R1 := RV G) q).imp fun y H1 ⟨v, ι1, S1, e1, s1, r1, q1⟩ => by
    cases ha : tyN v with
    | none => rw [ha] at q1; exact q1.elim
    | some a =>
      rw [ha] at q1
      refine ⟨y, .ty (tyS b), .type (tyS a), .type (tyS b), isTyN a b, rfl, .ty _, by rw [hK]; exact tyX_of s1 r1 ha, kit_ty (kitN a (tyN_lt ha) b hb), q1 _ H1 ι1 .refl s1 (rep_bl.mpr rfl)⟩⟩
/-! ### methods -/
def tagP : Nat → PV → Bool
  | 0, .str _ => true
  | 1, .lst _ => true
  | 1, .fl _ => true
  | _, _ => false
def tagS : Nat → String
  | 0 => "str"
  | _ => "list"
def mMt (t : Nat) (g : OL) (o : ME) (as : MA) : ME := fun cl env S => bnd (o cl env S) fun v S1 => match tagP t v with
  | true => bnd (as cl env S1) fun vs S2 => ofO (g (v :: vs) S2)
  | false => .err
theorem tyV_of {H : Hp} {ι : Nat → Addr} {S : Sto} {v : PV} {x : V} {t : Nat} (s : SRel G H ι S) (r : Rep G.K G.ga H ι S.length v x) (h : tagP t v = true) : tyV G.K (tagS t) x H := by
  unfold tagP at h
  split at h
  · rw [rep_str.mp r]; rfl
  · obtain ⟨rfl, hi⟩ := rep_lst.mp r
    obtain ⟨_, vs, _, h2, _⟩ := s.at hi
    exact .inl ⟨rfl, vs, SqL.of h2⟩
  · obtain ⟨p, vs, rfl, hq, _⟩ := rep_fl r
    exact .inl ⟨rfl, vs, hq⟩
  · cases h
theorem re_mt {t : Nat} {g : OL} {id : String} {name : Str} {o e : Expr} {es : List Expr} {mo : ME} {ma : MA} {apos cpos : Pos} (hK : X.K = G.K) (pa : PlainAttrs (tagS t)) (slot : PySem.Slot (tagS t) name id) (hty : typeOf (.builtin id) = pure (.type "method_descriptor")) (hm : MtR X id (rMt G g)) (ho : PE X o (RdE G tk cl W mo)) (ha : PA X (e :: es) (RdA G tk cl W ma))
    (hbase : attributeBase o name X.env (eval o X.env) = eval o X.env)
    (hfew : ((backTo cpos (starEach (e :: es) X.env)).all (fun x => !x.1) && (backToKw cpos (keywordEach [] X.env)).all (fun x => x.1.isSome) && decide ((e :: es).length + ([] : List Keyword).length + (if ([] : List Keyword).isEmpty then 0 else 1) < 30)) = true)
    (hline : (apos.endLine == cpos.line) = true) (hs : starEach (e :: es) X.env = (false, eval e X.env) :: starEach es X.env) (hplain : (backTo cpos (starEach es X.env)).any (·.1) = false) : PE X (.Call (.Attribute o name apos) (e :: es) [] cpos) (RdE G tk cl W (mMt t g mo ma)) :=
  PE.imp (pe_bm pa slot hty hm ho ha hbase hfew hline hs hplain) fun σ H Q ⟨ι, env, S, r, s, q⟩ => ⟨ι, env, S, r, s, (KE.bind (R1 := RV G) q).imp fun y H1 ⟨v, ι1, S1, e1, s1, r1, q1⟩ => by
    cases ht : tagP t v with
    | false => rw [ht] at q1; exact q1.elim
    | true =>
      rw [ht] at q1
      refine ⟨by rw [hK]; exact tyV_of s1 r1 ht, ι1, env, S1, r.ext e1, s1, (KE.bind (R1 := RVs G) q1).imp fun ys H2 ⟨vs, ι2, S2, e2, s2, r2, q2⟩ => ⟨ι2, S2, v :: vs, s2, .cons (Rep.ext e2 _ _ r1) r2, q2.o⟩⟩⟩
/-! ### raise, try -/
theorem rs_raise {c : Nat} {e : Expr} {pos : Pos} (hc : X.calm = true) (t : L2N.Takes X W) (he : L2N.PMk X e (fun _ H Q => Q (.ref (G.ga c)) none H)) : PS X (.Raise (some e) none pos) (RdS G tk cl W (sRz c)) :=
  PS.imp (L2N.ps_raise hc t he) fun D σ H ⟨ι, env, S, r, s, q⟩ => q σ H ι _ none .refl s r ⟨rfl, rfl, rfl⟩
/-- no slot holds a caught exception -/
def noEx (env : Env) : Bool := env.all fun s => match s with
  | .ex .. => false
  | _ => true
/-- try: body / except C as n: suite; sub: which classes C catches -/
def sTr (sub : Nat → Nat → Option Bool) (c i : Nat) (a b : MS) : MS := fun cl env S => match a cl env S with
  | .exc d p env' S' => match sub d c with
    | some true => match b cl (env'.set i (.ex d p)) S' with
      | .nx e1 S1 => match noEx (e1.set i .un) with
        | true => .nx (e1.set i .un) S1
        | false => .err
      | .ct e1 S1 => match noEx (e1.set i .un) with
        | true => .ct (e1.set i .un) S1
        | false => .err
      | .bk e1 S1 => match noEx (e1.set i .un) with
        | true => .bk (e1.set i .un) S1
        | false => .err
      | .exc .. => .err
      | r => r
    | some false => .exc d p env' S'
    | none => .err
  | r => r
theorem ERel.exIn {G : Gc} {tk : Tks} {H : Hp} {ι : Nat → Addr} {n : Nat} {σ : L2.St} {env : Env} {i : Nat} {a : Addr} {d : Nat} {p : Option PV} (h : ERel G tk H ι n σ env) (hx : tk.ex = none) : ERel G ⟨some (a, d, p), tk.cl⟩ H ι n (σ.set i (some (.ref a))) (env.set i (.ex d p)) := by
  refine ⟨by simpa using h.len, fun j s e => ?_⟩
  by_cases hj : i = j
  · subst hj
    by_cases hi : i < env.length
    · rw [List.getElem?_set_self hi] at e
      cases e
      exact ⟨a, by rw [List.getElem?_set_self (by rw [← h.len]; exact hi)], rfl⟩
    · rw [List.getElem?_eq_none (by simpa using hi)] at e
      cases e
  · rw [List.getElem?_set_ne hj] at e
    rw [List.getElem?_set_ne hj]
    have q := h.at_ j s e
    cases s with
    | un => exact q
    | pv v => exact q
    | ex c p => obtain ⟨b, _, z⟩ := q; rw [hx] at z; cases z
    | cl => exact q
theorem ERel.exOut {G : Gc} {tk : Tks} {H : Hp} {ι : Nat → Addr} {n : Nat} {σ : L2.St} {env : Env} {i : Nat} {x : Option (Addr × Nat × Option PV)} (h : ERel G ⟨x, tk.cl⟩ H ι n σ env) (hn : noEx (env.set i .un) = true) : ERel G tk H ι n (σ.set i none) (env.set i .un) := by
  refine ⟨by simpa using h.len, fun j s e => ?_⟩
  by_cases hj : i = j
  · subst hj
    by_cases hi : i < env.length
    · rw [List.getElem?_set_self hi] at e
      cases e
      exact True.intro
    · rw [List.getElem?_eq_none (by simpa using hi)] at e
      cases e
  · have e' := e
    rw [List.getElem?_set_ne hj] at e
    rw [List.getElem?_set_ne hj]
    have q := h.at_ j s e
    cases s with
    | un => exact q
    | pv v => exact q
    | ex c p =>
      unfold noEx at hn
      rw [List.all_eq_true] at hn
      have := hn _ (List.mem_of_getElem? e')
      cases this
    | cl => exact q
theorem rs_try {sub : Nat → Nat → Option Bool} {c i : Nat} {x n : Str} {body suite : List Stmt} {b₀ : Stmt} {np pos pos' : Pos} {a b : MS} (hK : X.K = G.K) (hs : X.stack = X.env :: X.outer) (hf : X.env.frame = some X.env.locals) (hN : X.N.Nodup) (hi : X.N[i]? = some n) (hln : X.env.kindOf n = some .local)
    (hc : Names X x (.ref (G.ga c))) (t : L2N.Takes X W) (hx : tk.ex = none) (hsub : ∀ d b, sub d c = some b → PySem.W.exmOne G.K (.ref (G.ga d)) (.ref (G.ga c)) = some b)
    (hb : ∀ (W : WX) (pn : List (Addr × Obj)) (xe : Value → Shared → Prop), L2N.Takes (X.tr pn xe) W → PassesOwn (model X.prog X.w) X.A X.env xe → PSs (X.tr pn xe) body (RdS G tk cl W a))
    (hsu : ∀ (adr : Addr) (oe : Obj) (d : Nat) (p : Option PV) (pn : List (Addr × Obj)), L2N.Zn (.ref (G.ga d)) none oe → (∃ vs, oe.data = .fields vs) → PSs (X.suite adr ((adr, oe) :: pn)) (b₀ :: suite) (RdS G ⟨some (adr, d, p), tk.cl⟩ cl W0 b)) :
    PS X (.Try body [.ExceptHandler (some (.Name x np)) (some n) (b₀ :: suite) pos'] [] [] pos) (RdS G tk cl W (sTr sub c i a b)) := by
  refine PS.imp (L2N.ps_try_as (tb := fun W => RdS G tk cl W a) (ts := fun adr cls dd D σ H => ∃ d p, ExR G d p cls dd ∧ RdS G ⟨some (adr, d, p), tk.cl⟩ cl W0 b D σ H) hs hf hN hi hln hc t hb fun adr oe cls dd pn hz hd => ?_) fun D σ H ⟨ι, env, S, r, s, k⟩ => ?_
  · refine ⟨fun pins s σ H D I ⟨d, p, he, h⟩ => ?_⟩
    obtain ⟨rfl, rfl, rfl⟩ := he
    exact (hsu adr oe d none pn hz hd).run pins s σ H D I h
  · refine ⟨ι, env, S, r, s, ?_⟩
    simp only [sTr] at k
    cases ea : a cl env S with
    | nx e1 S1 => rw [ea] at k; exact k
    | ct e1 S1 => rw [ea] at k; exact k
    | bk e1 S1 => rw [ea] at k; exact k
    | rt v S1 => rw [ea] at k; exact k
    | err => rw [ea] at k; exact k
    | exc d p e1 S1 =>
      rw [ea] at k
      intro σ' H' ι' cls dd e s' r' hex
      obtain ⟨rfl, rfl, rfl⟩ := hex
      dsimp only at k
      cases es : sub d c with
      | none => rw [es] at k; exact k.elim
      | some bb =>
        rw [es] at k
        refine ⟨bb, by rw [hK]; exact hsub d bb es, fun hbb adr hadr => ?_, fun hbb => ?_⟩
        · subst hbb
          dsimp only at k
          refine ⟨d, none, ⟨rfl, rfl, rfl⟩, ι', e1.set i (.ex d none), S1, r'.exIn hx, s', ?_⟩
          have k2 := KS.mono k e
          cases eb : b cl (e1.set i (.ex d none)) S1 with
          | nx e2 S2 =>
            rw [eb] at k2
            dsimp only at k2
            cases hn : noEx (e2.set i .un) with
            | false => rw [hn] at k2; exact k2.elim
            | true => rw [hn] at k2; exact fun σ2 H2 ι2 x2 s2 q2 => k2 _ H2 ι2 x2 s2 (q2.exOut hn)
          | ct e2 S2 =>
            rw [eb] at k2
            dsimp only at k2
            cases hn : noEx (e2.set i .un) with
            | false => rw [hn] at k2; exact k2.elim
            | true => rw [hn] at k2; exact fun σ2 H2 ι2 x2 s2 q2 => k2 _ H2 ι2 x2 s2 (q2.exOut hn)
          | bk e2 S2 =>
            rw [eb] at k2
            dsimp only at k2
            cases hn : noEx (e2.set i .un) with
            | false => rw [hn] at k2; exact k2.elim
            | true => rw [hn] at k2; exact fun σ2 H2 ι2 x2 s2 q2 => k2 _ H2 ι2 x2 s2 (q2.exOut hn)
          | rt v S2 => rw [eb] at k2; exact k2
          | exc c2 p2 e2 S2 => rw [eb] at k2; exact k2.elim
          | err => rw [eb] at k2; exact k2.elim
        · subst hbb
          exact k σ' H' ι' _ none e s' r' ⟨rfl, rfl, rfl⟩
/-! ### the caught exception's class -/
def mIsE (sub : Nat → Nat → Option Bool) (i c : Nat) : ME := fun _ env S => match env[i]? with
  | some (.ex d _) => match sub d c with
    | some b => .ok (.bl b) S
    | none => .err
  | _ => .err
theorem re_isE {sub : Nat → Nat → Option Bool} {i c : Nat} {x n y : Str} {p pos np yp : Pos} (hK : X.K = G.K) (hN : X.N[i]? = some n) (hv : Vis X.env.scope n) (hdn : (n == ("__debug__" : Str)) = false) (hcn : (n == ("__classdict__" : Str)) = false) (hg : Gl X x) (hm : X.mg x = none) (hvx : bootBuiltins x = some (.builtin "isinstance"))
    (hn : x ≠ "__name__") (hdb : (x == ("__debug__" : Str)) = false) (hgy : Gl X y) (hmy : X.mg y = some (.ref (G.ga c))) (hdy : (y == ("__debug__" : Str)) = false) (hsub : ∀ d b, sub d c = some b → PySem.W.kitOne G.K (.ref (G.ga d)) (.ref (G.ga c)) = some b)
    (hise : ∀ a d p b, tk.ex = some (a, d, p) → sub d c = some b → CallR X (.builtin "isinstance") (rIsE X.K (G.ga d) a)) : PE X (.Call (.Name x p) [.Name n np, .Name y yp] [] pos) (RdE G tk cl W (mIsE sub i c)) := by
  refine ⟨fun pins s σ H Q I ⟨ι, env, S, r, s', k⟩ => ?_⟩
  simp only [mIsE] at k
  split at k
  · rename_i d pp en
    obtain ⟨a, e1, e2⟩ := r.at_ i _ en
    split at k
    · rename_i b eb
      refine (pe_callB (hise a d pp b e2 eb) hg hm hvx (pa_cons (pe_var (pos := np) hN hv hdn hcn) (pa_cons (pe_glob (pos := yp) hgy hmy (v := .ref (G.ga c)) rfl hdy) pa_nil rfl) rfl) hn hdb rfl rfl).run pins s σ H Q I ?_
      exact ⟨.ref a, e1, .ref (G.ga c), .ref (G.ga c), b, rfl, fun u hu => hu, by rw [hK]; exact hsub d b eb, k _ H ι .refl s' (rep_bl.mpr rfl)⟩
    · exact k.elim
  · exact k.elim
end
end Mi

set_option Elab.async false
set_option linter.all false
set_option maxRecDepth 100000
set_option maxHeartbeats 2000000
namespace Mi
open PySem PySem.Spec PyProof.Rows L2 LamX

/-! ### a comprehension in an except suite -/
def iAL (m : ME) : MI := fun cl env S => bnd (m cl env S) fun v S1 => match kdP v, srcP v with
  | some .l, some src => .ok src S1
  | _, _ => .err
theorem PIH.imp {X : Cx} {tg e : Expr} {t t' : TI} (h : L2H.PIH X tg e t) (f : ∀ σ H Q, t' σ H Q → t σ H Q) : L2H.PIH X tg e t' := ⟨fun pins s σ H R I q => h.run pins s σ H R I (f σ H R q)⟩
section
variable {G : Gc} {tk : Tks} {cl : Cl} {W : WX} {X : Cx}
theorem ri_listH {tg e : Expr} {m : ME} (hK : X.K = G.K) (he : PE X e (RdE G tk cl W m)) : L2H.PIH X tg e (RdI G tk cl W (iAL m)) :=
  PIH.imp (pi_listH he) fun σ H R ⟨ι, env, S, r, s, k⟩ => ⟨ι, env, S, r, s, (KE.bind (R1 := RV G) k).imp fun x H1 ⟨v, ι1, S1, e1, s1, r1, k1⟩ => by
    rw [hK]
    split at k1
    · rename_i src ek es
      obtain ⟨a, rfl, it, hx⟩ := it_l s1 r1 es ek
      exact ⟨a, rfl, hx .refl s1, k1 _ H1 ι1 .refl s1 it⟩
    · exact k1.elim⟩
theorem re_lcH {elt tg iter : Expr} {ifs : List Expr} {scope : Scope} {own : List (Str × Nat)} {pos : Pos} {t : TG} {g : MG} {is : List Nat} {mt : MB} {me : ME} {mi : MI} (hc : L2H.HotC X) (hN : X.N.Nodup) (hi : L2H.PIH X tg iter (RdI G tk cl W mi)) (ok : BlkOk X.N X.env.scope scope own) (gg : GOk G tk is t g) (his : ∀ i ∈ is, i ∈ own.map (·.2))
    (hg : ∀ (s : Shared) (H : Hp) (C : Addr) (cl : List (Str × Addr)) (fp : List Addr), PG (blkH X s H scope (compEnvC scope cl C X.env) fp) tg t) (ht : ∀ (s : Shared) (H : Hp) (C : Addr) (l : List (Str × Addr)) (fp : List Addr), PTs (blkH X s H scope (compEnvC scope l C X.env) fp) ifs (RdB G tk cl W0 mt))
    (he : ∀ (s : Shared) (H : Hp) (C : Addr) (l : List (Str × Addr)) (fp : List Addr), PE (blkH X s H scope (compEnvC scope l C X.env) fp) elt (RdE G tk cl W0 me)) (hs : ∀ x, foldedSetIterable iter X.env x = pure x) :
    PE X (.ListComp elt [⟨tg, iter, ifs, 0⟩] scope pos) (RdE G tk cl W (mLc (own.map (·.2)) g mt me mi)) := PE.imp (pe_lcH hc hN hi ok hg ht he hs) fun _ _ _ h => lc_read rfl gg his h
end

/-! ### f(lambda: e) -/
def plainE (env : Env) : Env := env.map fun s => match s with
  | .pv v => .pv v
  | _ => .un
def bareC (c : Call) : Cl := ⟨c, fun _ _ _ => .err, fun _ => .err⟩
def mLam (j : Nat) (m : ME) : ME := fun cl env S => match cl.callL j (fun c S' => m (bareC c) (plainE env) S') S with
  | .exc .. => .err
  | r => r
theorem erel0_of {G : Gc} {tk : Tks} {H : Hp} {ι : Nat → Addr} {n : Nat} {σ : L2.St} {env : Env} (h : ERel G tk H ι n σ env) : ERel0 G H ι n σ (plainE env) := by
  refine ⟨by unfold plainE; rw [List.length_map]; exact h.len, fun i s e => ?_⟩
  unfold plainE at e
  rw [List.getElem?_map] at e
  cases q : env[i]? with
  | none => rw [q] at e; cases e
  | some t =>
    rw [q] at e
    have r := h.at_ i t q
    cases t with
    | pv v =>
      cases e
      obtain ⟨u, h1, h2⟩ := r
      exact .inr ⟨v, u, rfl, h1, h2⟩
    | un => cases e; exact .inl rfl
    | ex c p => cases e; exact .inl rfl
    | cl => cases e; exact .inl rfl
theorem erel_of0 {G : Gc} {tk : Tks} {H : Hp} {ι : Nat → Addr} {n : Nat} {σ : L2.St} {env : Env} (h : ERel0 G H ι n σ env) : ERel G tk H ι n σ env :=
  ⟨h.len, fun i s e => by
    rcases h.at_ i s e with e1 | ⟨v, u, e1, h1, h2⟩
    · subst e1; exact True.intro
    · subst e1; exact ⟨u, h1, h2⟩⟩
abbrev lamN (X : Cx) (A : Around) (outer : List PySem.Env) (s : Shared) (H : Hp) (E : XK) (scope : Scope) (f c' : Addr) : Cx :=
  (lamCx X A outer s H E scope f c').wish fun e s' => wpAny (model X.prog X.w) (A.deeper (lamEnv X scope s.heap.objs.size f c')) (leaving (lamEnv X scope s.heap.objs.size f c') e) (fun _ s'' => L2N.CX X.prog X.w outer H s E e s'') (fun e' s'' => L2N.CX X.prog X.w outer H s E e' s'') s'
/-- what a def that gets a closure as its one argument promises: the closure's object f, its answer clo -/
def LamAt (G : Gc) (P : Program) (w : World) (mg : Str → Option Value) (base : Heap) (k : Nat) (cL : (Call → Sto → Res PV) → Sto → Res PV) (cb : Call) (j : Nat) : Prop :=
  ∃ (a x : Str) (pg : Arguments) (bg : List Stmt) (sg : Scope) (dV kV doc pm cdv ct oc : Value) (an od : Option Addr) (osl : Array (Option Value)) (Ng : List Str),
    PySem.W.keepIn G.K (.ref (G.ga j)) = true ∧ G.K.lookup (G.ga j) = some ⟨oc, od, .func (PySem.W.fnOf x x pg bg sg dV kV doc pm an cdv ct), osl⟩ ∧ PySem.W.codeIn G.K cdv x = true ∧ L2.Binds G.K (PySem.W.fnOf x x pg bg sg dV kV doc pm an cdv ct) [a] [] ∧ FnScope Ng [a] sg ∧ Ng[0]? = some a ∧ Vis sg a ∧
    (a == ("__debug__" : Str)) = false ∧ (a == ("__classdict__" : Str)) = false ∧
    ∀ (A : Around) (outer : List PySem.Env) (s : Shared) (H : Hp) (z : ClI) (clo : Call → Sto → Res PV) (ι : Nat → Addr) (S : Sto) (Q : VK), Room k (A.deeper (envOfC x sg s.heap.objs.size (G.ga j) cdv)) → SRel G H ι S → H z.c = some (CodeO z.c z.q) → ERel0 G H ι S.length z.σ z.env →
      (∀ (pn : List (Addr × Obj)) (xe : Value → Shared → Prop) (W : WX) (p1 p2 : Pos) (cl : Cl), cl.act = clo cb → L2N.Takes ((cxOf (L2N.CX P w) P w G.K mg base Ng x sg (G.ga j) cdv A outer s H fun _ _ _ => False).tr pn xe) W →
        PE ((cxOf (L2N.CX P w) P w G.K mg base Ng x sg (G.ga j) cdv A outer s H fun _ _ _ => False).tr pn xe) (.Call (.Name a p1) [] [] p2) (RdE G ⟨none, some z⟩ cl W (mAct 0))) →
      KE G (fun _ _ _ => False) H ι S.length (cL clo S) (RV G) Q →
      ∃ t, PSs (cxOf (L2N.CX P w) P w G.K mg base Ng x sg (G.ga j) cdv A outer s H fun _ _ _ => False) bg t ∧ t { nx := fun _ H' => Q .non H', rt := Q } (L2.start Ng [.ref z.f]) H
section
variable {G : Gc} {tk : Tks} {cl : Cl} {W : WX} {X : Cx} {pins : List (Addr × Obj)} {σ : L2.St} {H : Hp} {s : Shared}
theorem act_ok {Ng : List Str} {qg : Str} {sg : Scope} {g f c' : Addr} {cdg pm ctv : Value} {params : Arguments} {body : Expr} {scope : Scope} {k : Nat} {a : Str} {pn : List (Addr × Obj)} {xe : Value → Shared → Prop} {W : WX} {p1 p2 : Pos} {m : ME} {env0 : Env} {cb : Call} {clZ : Cl}
    (hK : X.K = G.K) (I : Inv X pins σ H s) (L : LamS X.env.scope scope) (hf : s.heap.get? f = some (PySem.W.kla_obj "<lambda>" (X.env.qual ++ "<lambda>") params body scope (cloFrom X.env.cells scope.names []) pm c' ctv)) (hfn : H f = none) (hfr : f ∉ frs X.stack)
    (hbind : bindArgs (PySem.W.kla_fn "<lambda>" (X.env.qual ++ "<lambda>") params body scope (cloFrom X.env.cells scope.names []) pm (.ref c') ctv) ⟨[], []⟩ = pure [])
    (t : L2N.Takes ((cxOf (L2N.CX X.prog X.w) X.prog X.w X.K X.mg X.base Ng qg sg g cdg X.A X.stack s H fun _ _ _ => False).tr pn xe) W) (hr : Room (k + 1) (X.A.deeper (envOfC qg sg s.heap.objs.size g cdg)))
    (hbody : ∀ (A : Around) (outer : List PySem.Env) (s : Shared) (H : Hp) (E : XK), Room k (A.deeper (lamEnv X scope s.heap.objs.size f c')) → PE (lamN X A outer s H E scope f c') body (RdE G ⟨none, none⟩ (bareC cb) (fun c d _ H => E c d H) m))
    (hN : Ng[0]? = some a) (hv : Vis sg a) (hd : (a == ("__debug__" : Str)) = false) (hcd : (a == ("__classdict__" : Str)) = false) (hact : clZ.act = fun S => m (bareC cb) env0 S) :
    PE ((cxOf (L2N.CX X.prog X.w) X.prog X.w X.K X.mg X.base Ng qg sg g cdg X.A X.stack s H fun _ _ _ => False).tr pn xe) (.Call (.Name a p1) [] [] p2) (RdE G ⟨none, some ⟨f, c', X.env.qual ++ "<lambda>", σ, env0⟩⟩ clZ W (mAct 0)) := by
  refine ⟨fun pZ sZ σZ HZ Q IZ h => ?_⟩
  obtain ⟨ι, envZ, SZ, r, sr, q⟩ := h
  simp only [mAct] at q
  split at q
  · rename_i en
    obtain ⟨z, ez, hs, hc, h0⟩ := r.at_ 0 _ en
    cases ez
    refine wpAny_Call_Name_kw (thn ((pe_var (pos := p1) (i := 0) hN hv hd hcd).run pZ sZ σZ HZ (fun v H1 => v = .ref f ∧ H1 = HZ) IZ ⟨.ref f, hs, rfl, rfl⟩) fun u t1 ⟨v, H1, I1, r1, ev, eH⟩ => ?_)
    subst ev
    rw [eH] at I1
    obtain rfl : u = Value.ref f := r1
    have of1 := I1.base.keep f _ hf hfn hfr (fun z => nomatch (show f ∈ ([] : List Addr) from z))
    refine PySem.W.callWith_F0 ⟨_, _, _, _, of1⟩ ?_
    have un : Un (frs X.stack) [] H HZ s.heap t1.heap := I1.base
    obtain ⟨⟨oc, vs, tt, hoc, hdc, hvc⟩, _, _⟩ := I1.hok c' _ hc
    have hq : RdE G ⟨none, none⟩ (bareC cb) (fun c d _ H => W c d σZ H) m σ HZ Q := ⟨ι, env0, SZ, erel_of0 h0, sr, by rw [hact] at q; exact q⟩
    have rc : codeAny (model X.prog X.w) (X.A.deeper (envOfC qg sg s.heap.objs.size g cdg)) (.call (.ref f) ⟨[], []⟩) (CR (L2N.CX X.prog X.w) (envOfC qg sg s.heap.objs.size g cdg :: X.stack) X.prog X.w HZ t1 Q (fun c d H => W c d σZ H)) t1 := by
      refine PySem.W.kla_callFunE hr.depth of1 rfl L.co L.gen rfl ⟨c', oc, vs, tt, rfl, hoc, hdc, hvc⟩ ?_
      rw [hbind]
      refine wpAny_pure (wpAny_newFunctionEnv (fun y hy => (L.own y hy).2) (fun y hy => absurd hy (by simp)) (fun h1 hns hsb => ⟨I1.nolimit.fresh _ hsb, ?_⟩) L.kind)
      show codeAny _ _ (.expr body (lamEnv X scope t1.heap.objs.size f c')) _ _
      have kp : ∀ b o, t1.heap.get? b = some o → h1.get? b = some o := fun b o e => hsb.extBut b o (Nat.ne_of_lt (Heap.lt_size e)) (Heap.get?_push_of_some _ e)
      have J0 := lam_start2 (E := fun c d H => W c d σZ H) (f := f) (c' := c') (tk := t1.toks + ([] : List (Str × Value)).length) I L I1.env0 hr.hd un hns kp
      have J := J0.wish fun e s' => wpAny (model X.prog X.w) ((X.A.deeper (envOfC qg sg s.heap.objs.size g cdg)).deeper (lamEnv X scope t1.heap.objs.size f c')) (leaving (lamEnv X scope t1.heap.objs.size f c') e) (fun _ s'' => L2N.CX X.prog X.w (envOfC qg sg s.heap.objs.size g cdg :: X.stack) HZ t1 (fun c d H => W c d σZ H) e s'') (fun e' s'' => L2N.CX X.prog X.w (envOfC qg sg s.heap.objs.size g cdg :: X.stack) HZ t1 (fun c d H => W c d σZ H) e' s'') s'
      refine PySem.W.kla_codeExpr (wpAny_mono ((hbody _ _ t1 HZ (fun c d H => W c d σZ H) (hr.deeper _)).run [] _ _ HZ Q J hq) (fun v s' ⟨w', H', J', rv, qq⟩ => ?_) fun e s' hq => hq)
      exact ⟨w', H', J'.os, J'.bare, J'.base, J'.hok, rv, qq⟩
    have hx := L2N.passAt t σZ
    refine wpAny_call (codeAny_mono rc fun r s' hq => ?_)
    cases r with
    | error e => exact hx pZ HZ t1 e s' I1 hq
    | ok fl =>
      cases fl with
      | ret u => exact I1.after hq
      | _ => exact False.elim hq
  · exact q.elim
theorem ext_of_extN {H H1 : Hp} {ι : Nat → Addr} {n : Nat} (e : ExtN H H1) : Ext H ι n H1 ι n :=
  ⟨⟨fun a xs h => e _ _ h (fun ps z => by cases z), fun a o u h => e _ _ h (fun ps z => by cases z), fun a φ h => e _ _ h (fun ps z => by cases z), fun _ _ => rfl, Nat.le_refl _⟩, fun a vs h k => ⟨e _ _ h (fun ps z => by cases z), k⟩⟩
theorem SRel.extN {H H1 : Hp} {ι : Nat → Addr} {S : Sto} (h : SRel G H ι S) (e : ExtN H H1) (t : Tabs G.T H1) : SRel G H1 ι S :=
  ⟨h.inj, fun i xs q => by
    obtain ⟨vs, e1, e2⟩ := h.cell i xs q
    exact ⟨vs, e _ _ e1 (fun ps z => by cases z), e2.ext (ext_of_extN e)⟩, t⟩
theorem re_lam {x : Str} {j k : Nat} {c P : Addr} {params : Arguments} {body : Expr} {scope : Scope} {m : ME} {p lpos pos : Pos} {cb : Call} (hK : X.K = G.K) (hg : Gl X x) (hm : X.mg x = some (.ref (G.ga j))) (F : LamAt G X.prog X.w X.mg X.base (k + 1) (cl.callL j) cb j)
    (TB : TabB X.base X.mg c P) (hcode : X.env.code = .ref c) (hmT : (P, X.env.qual ++ "<lambda>") ∈ G.T) (hu : ∀ p ∈ G.T, p.1 = P → p.2 = X.env.qual ++ "<lambda>") (hr : Room (k + 2) X.A) (L : LamS X.env.scope scope) (hdef : defaultsOf params X.env = ([], []))
    (hbind : ∀ (q : Str) (cl : List (Str × Addr)) (pm cv ctv : Value), bindArgs (PySem.W.kla_fn "<lambda>" q params body scope cl pm cv ctv) ⟨[], []⟩ = pure [])
    (hbody : ∀ (A : Around) (outer : List PySem.Env) (s : Shared) (H : Hp) (E : XK) (f c' : Addr), Room k (A.deeper (lamEnv X scope s.heap.objs.size f c')) → PE (lamN X A outer s H E scope f c') body (RdE G ⟨none, none⟩ (bareC cb) (fun c d _ H => E c d H) m))
    (hdb : (x == ("__debug__" : Str)) = false) : PE X (.Call (.Name x p) [.Lambda params body scope lpos] [] pos) (RdE G tk cl W (mLam j m)) := by
  obtain ⟨a, xq, pg, bg, sg, dV, kV, doc, pm, cdv, ct, oc, an, od, osl, Ng, hk, lk, hcg, hb, Sg, hNg, hva, hda, hca, hG⟩ := F
  refine ⟨fun pins s σ H Q I h => ?_⟩
  obtain ⟨ι, env, S, r, sr, q⟩ := h
  refine wpAny_Call_Name_kw (ld_glob I hg hm ?_ hdb)
  rw [← hK] at hk lk hcg hb
  refine PySem.W.callWith_K (h₀ := X.base) I.ok.mod.kin hk ?_ (by rfl) (by rfl)
  show wpAny _ _ (spliced ((false, eval (.Lambda params body scope lpos) X.env) :: backTo pos (starEach [] X.env))) _ _ s
  refine Calls.spliced_cons (lam_make2 I TB hcode hmT hu sr.tabs hdef (L.has I.ok) fun f c' pm' ctv H1 s' I1 eN T1 hf hfn hfr hco => ?_)
  refine Calls.spliced_nil ⟨I1.kIn, ?_⟩
  have e1 : Ext H ι S.length H1 ι S.length := ext_of_extN eN
  have sr1 := sr.extN eN T1
  have rc : codeAny (model X.prog X.w) X.A (.call (.ref (G.ga j)) ⟨[.ref f], []⟩) (CR (L2N.CX X.prog X.w) X.stack X.prog X.w H1 s' Q fun _ _ _ => False) s' := by
    refine run_ofS (N := Ng) (ps := [a]) (us := [.ref f]) (vs := [.ref f]) lk hcg Sg hr I1.env0 (hb s' [.ref f] I1.kIn rfl) (.cons rfl .nil) rfl fun hr' => ?_
    have := hG X.A X.stack s' H1 ⟨f, c', X.env.qual ++ "<lambda>", σ, plainE env⟩ (fun c S' => m (bareC c) (plainE env) S') ι S Q hr' sr1 hco (erel0_of (r.ext e1)) (fun pn xe W p1 p2 clZ hact t => ?_) ?_
    · rw [hK]
      exact this
    · rw [← hK] at t ⊢
      exact act_ok (params := params) (body := body) (scope := scope) (cb := cb) (m := m) hK I1 L hf hfn hfr (hbind _ _ _ _ _) t hr' (fun A outer s H E hr2 => hbody A outer s H E f c' hr2) hNg hva hda hca hact
    · have q1 := KE.mono q e1
      unfold mLam at q1
      cases ec : cl.callL j (fun c S' => m (bareC c) (plainE env) S') S with
      | ok v S2 => rw [ec] at q1; exact q1
      | exc cc pp S2 => rw [ec] at q1; exact q1.elim
      | err => rw [ec] at q1; exact q1
  refine wpAny_call (codeAny_mono rc fun r s2 hq => ?_)
  cases r with
  | error e =>
    obtain ⟨_, _, _, _, _, _, _, _, _, _, _, _, z⟩ := hq
    exact z.elim
  | ok fl =>
    cases fl with
    | ret u => exact I1.after hq
    | _ => exact False.elim hq
end
end Mi

set_option Elab.async false
set_option linter.all false
set_option maxRecDepth 100000
set_option maxHeartbeats 2000000
namespace Mi
open PySem PySem.Spec PyProof.Rows L2

/-! ### rules that were left -/
def mSl (a : ME) (lo hi : Option ME) : ME := fun cl env S => bnd (a cl env S) fun v S1 => match lo, hi with
  | none, none => ofO (oSl v none none S1)
  | some l, none => bnd (l cl env S1) fun x S2 => match x with
    | .int i => ofO (oSl v (some i) none S2)
    | _ => .err
  | none, some h => bnd (h cl env S1) fun x S2 => match x with
    | .int i => ofO (oSl v none (some i) S2)
    | _ => .err
  | some l, some h => bnd (l cl env S1) fun x S2 => match x with
    | .int i => bnd (h cl env S2) fun y S3 => match y with
      | .int j => ofO (oSl v (some i) (some j) S3)
      | _ => .err
    | _ => .err
section
variable {G : Gc} {tk : Tks} {cl : Cl} {W : WX} {X : Cx}
theorem re_one {op : BoolOp} {a : Expr} {m : ME} {pos : Pos} (h : PE X a (RdE G tk cl W m)) : PE X (.BoolOp op [a] pos) (RdE G tk cl W m) := pe_one h
theorem re_and {a b : Expr} {rest : List Expr} {ma mb : ME} {pos : Pos} (hK : X.K = G.K) (ha : PE X a (RdE G tk cl W ma)) (hb : PE X (.BoolOp .And (b :: rest) pos) (RdE G tk cl W mb)) : PE X (.BoolOp .And (a :: b :: rest) pos) (RdE G tk cl W (mAn ma mb)) :=
  PE.imp (pe_andT ha hb) fun σ H Q ⟨ι, env, S, r, s, k⟩ => ⟨ι, env, S, r, s, (KE.bind (R1 := RV G) k).imp fun x H1 ⟨v, ι1, S1, e1, s1, r1, k1⟩ => by
    cases e : truP v S1 with
    | none => rw [e] at k1; exact k1.elim
    | some b =>
      rw [e] at k1
      refine ⟨b, by rw [hK]; exact truP_ok s1 r1 e, ?_⟩
      cases b with
      | true => exact ⟨ι1, env, S1, r.ext e1, s1, k1⟩
      | false => exact k1 x H1 ι1 .refl s1 r1⟩
theorem re_or {a b : Expr} {rest : List Expr} {ma mb : ME} {pos : Pos} (hK : X.K = G.K) (ha : PE X a (RdE G tk cl W ma)) (hb : PE X (.BoolOp .Or (b :: rest) pos) (RdE G tk cl W mb)) : PE X (.BoolOp .Or (a :: b :: rest) pos) (RdE G tk cl W (mO ma mb)) :=
  PE.imp (pe_orT ha hb) fun σ H Q ⟨ι, env, S, r, s, k⟩ => ⟨ι, env, S, r, s, (KE.bind (R1 := RV G) k).imp fun x H1 ⟨v, ι1, S1, e1, s1, r1, k1⟩ => by
    cases e : truP v S1 with
    | none => rw [e] at k1; exact k1.elim
    | some b =>
      rw [e] at k1
      refine ⟨b, by rw [hK]; exact truP_ok s1 r1 e, ?_⟩
      cases b with
      | false => exact ⟨ι1, env, S1, r.ext e1, s1, k1⟩
      | true => exact k1 x H1 ι1 .refl s1 r1⟩
theorem re_not {a : Expr} {ma : ME} {pos : Pos} (hK : X.K = G.K) (ha : PE X a (RdE G tk cl W ma)) : PE X (.UnaryOp .Not a pos) (RdE G tk cl W (mNo ma)) :=
  PE.imp (pe_notT ha) fun σ H Q ⟨ι, env, S, r, s, k⟩ => ⟨ι, env, S, r, s, (KE.bind (R1 := RV G) k).imp fun x H1 ⟨v, ι1, S1, e1, s1, r1, k1⟩ => by
    cases e : truP v S1 with
    | none => rw [e] at k1; exact k1.elim
    | some b =>
      rw [e] at k1
      exact ⟨b, by rw [hK]; exact truP_ok s1 r1 e, k1 _ H1 ι1 .refl s1 (rep_bl.mpr rfl)⟩⟩
/-- the slice's parts -/
def poP (X : Cx) (G : Gc) (tk : Tks) (cl : Cl) (W : WX) : Option Expr → Option ME → Prop
  | none, none => True
  | some e, some m => PE X e (RdE G tk cl W m)
  | _, _ => False
theorem re_sl {a : Expr} {lo hi : Option Expr} {ma : ME} {ml mh : Option ME} {p2 pos : Pos} (hK : X.K = G.K) (ha : PE X a (RdE G tk cl W ma)) (hl : poP X G tk cl W lo ml) (hh : poP X G tk cl W hi mh) : PE X (.Subscript a (.Slice lo hi none p2) pos) (RdE G tk cl W (mSl ma ml mh)) := by
  have fin : ∀ {x : V} {H : Hp} {ι : Nat → Addr} {S : Sto} {v : PV} {l u : Option Int} {Q : VK} {E : XK}, SRel G H ι S → Rep G.K G.ga H ι S.length v x → KE G E H ι S.length (ofO (oSl v l u S)) (RV G) Q → rO3 G oSl x l u H Q := fun s r k => ⟨_, _, _, s, r, k.o⟩
  cases lo with
  | none =>
    cases ml with
    | some _ => exact hl.elim
    | none =>
      cases hi with
      | none =>
        cases mh with
        | some _ => exact hh.elim
        | none => exact PE.imp (pe_slice (ok_sl hK) ha po_none po_none) fun σ H Q ⟨ι, env, S, r, s, k⟩ => ⟨ι, env, S, r, s, (KE.bind (R1 := RV G) k).imp fun x H1 ⟨v, ι1, S1, e1, s1, r1, k1⟩ => fin s1 r1 k1⟩
      | some h =>
        cases mh with
        | none => exact hh.elim
        | some mh => exact PE.imp (pe_slice (ok_sl hK) ha po_none (po_some hh)) fun σ H Q ⟨ι, env, S, r, s, k⟩ => ⟨ι, env, S, r, s, (KE.bind (R1 := RV G) k).imp fun x H1 ⟨v, ι1, S1, e1, s1, r1, k1⟩ =>
            ⟨ι1, env, S1, r.ext e1, s1, (KE.bind (R1 := RV G) k1).imp fun y H2 ⟨w, ι2, S2, e2, s2, r2, k2⟩ => by
              cases w <;> try exact k2.elim
              exact ⟨_, rep_int.mp r2, fin s2 (Rep.ext e2 _ _ r1) k2⟩⟩⟩
  | some l =>
    cases ml with
    | none => exact hl.elim
    | some ml =>
      cases hi with
      | none =>
        cases mh with
        | some _ => exact hh.elim
        | none => exact PE.imp (pe_slice (ok_sl hK) ha (po_some hl) po_none) fun σ H Q ⟨ι, env, S, r, s, k⟩ => ⟨ι, env, S, r, s, (KE.bind (R1 := RV G) k).imp fun x H1 ⟨v, ι1, S1, e1, s1, r1, k1⟩ =>
            ⟨ι1, env, S1, r.ext e1, s1, (KE.bind (R1 := RV G) k1).imp fun y H2 ⟨w, ι2, S2, e2, s2, r2, k2⟩ => by
              cases w <;> try exact k2.elim
              exact ⟨_, rep_int.mp r2, fin s2 (Rep.ext e2 _ _ r1) k2⟩⟩⟩
      | some h =>
        cases mh with
        | none => exact hh.elim
        | some mh => exact PE.imp (pe_slice (ok_sl hK) ha (po_some hl) (po_some hh)) fun σ H Q ⟨ι, env, S, r, s, k⟩ => ⟨ι, env, S, r, s, (KE.bind (R1 := RV G) k).imp fun x H1 ⟨v, ι1, S1, e1, s1, r1, k1⟩ =>
            ⟨ι1, env, S1, r.ext e1, s1, (KE.bind (R1 := RV G) k1).imp fun y H2 ⟨w, ι2, S2, e2, s2, r2, k2⟩ => by
              cases w <;> try exact k2.elim
              refine ⟨_, rep_int.mp r2, ι2, env, S2, (r.ext e1).ext e2, s2, (KE.bind (R1 := RV G) k2).imp fun z H3 ⟨w', ι3, S3, e3, s3, r3, k3⟩ => ?_⟩
              cases w' <;> try exact k3.elim
              exact ⟨_, rep_int.mp r3, fin s3 (Rep.ext (e2.trans e3) _ _ r1) k3⟩⟩⟩
theorem rs_par3 {i j l : Nat} {x y z : Str} {a b c : Expr} {ma : MA} {px py pz pt pos : Pos} {kt k2 pt2} (hc : X.calm = true) (hN : X.N.Nodup) (hi : X.N[i]? = some x) (hj : X.N[j]? = some y) (hl : X.N[l]? = some z) (hij : i ≠ j) (hil : i ≠ l) (hjl : j ≠ l)
    (hx : X.env.scope.names.lookup x = some .local) (hy : X.env.scope.names.lookup y = some .local) (hz : X.env.scope.names.lookup z = some .local) (ha : PA X [a, b, c] (RdA G tk cl W ma))
    (hw : swappedStores [.Tuple [.Name x px, .Name y py, .Name z pz] kt pt] (.Tuple [a, b, c] k2 pt2) X.env = pure (some [x, y, z])) :
    PS X (.Assign [.Tuple [.Name x px, .Name y py, .Name z pz] kt pt] (.Tuple [a, b, c] k2 pt2) pos) (RdS G tk cl W (sP3 i j l ma)) :=
  PS.imp (ps_par3 hc hN hi hj hl hij hil hjl hx hy hz ha hw) fun D σ H ⟨ι, env, S, r, s, k⟩ => ⟨ι, env, S, r, s, (KS.bind (R1 := RVs G) k r).imp fun vs H1 ⟨v, ι1, S1, e1, s1, r1, rσ, k1⟩ => by
    split at k1
    · obtain ⟨u, w, t, rfl, q1, q2, q3⟩ := reps3 r1
      exact ⟨u, w, t, rfl, k1 _ H1 ι1 .refl s1 (((rσ.set q1).set q2).set q3)⟩
    · exact k1.elim⟩
theorem rs_setLc {i : Nat} {y : Str} {py : Pos} {elt tg iter : Expr} {ifs : List Expr} {scope : Scope} {own : List (Str × Nat)} {pos spos : Pos} {t : TG} {g : MG} {is : List Nat} {mt : MB} {me : ME} {mi : MI} (hc : X.calm = true) (hN : X.N.Nodup) (hy : X.N[i]? = some y) (hyl : X.env.scope.names.lookup y = some .local)
    (hsw : swapsWith (.ListComp elt [⟨tg, iter, ifs, 0⟩] scope pos) (some (.Name y py)) spos.line X.env = pure true) (hi : PI X tg iter (RdI G tk cl W mi)) (ok : BlkOk X.N X.env.scope scope own) (gg : GOk G tk is t g) (his : ∀ i ∈ is, i ∈ own.map (·.2))
    (hg : ∀ (s : Shared) (H : Hp) (C : Addr) (cl : List (Str × Addr)) (fp : List Addr), PG (X.blk s H scope (compEnvC scope cl C X.env) fp) tg t) (ht : ∀ (s : Shared) (H : Hp) (C : Addr) (l : List (Str × Addr)) (fp : List Addr), PTs (X.blk s H scope (compEnvC scope l C X.env) fp) ifs (RdB G tk cl W0 mt))
    (he : ∀ (s : Shared) (H : Hp) (C : Addr) (l : List (Str × Addr)) (fp : List Addr), PE (X.blk s H scope (compEnvC scope l C X.env) fp) elt (RdE G tk cl W0 me)) (hs : ∀ x, foldedSetIterable iter X.env x = pure x) :
    PS X (.Assign [.Name y py] (.ListComp elt [⟨tg, iter, ifs, 0⟩] scope pos) spos) (RdS G tk cl W (sS i (mLc (own.map (·.2)) g mt me mi))) :=
  PS.imp (ps_setLc hc hN hy hyl hsw hi ok hg ht he hs) fun D σ H ⟨ι, env, S, r, s, k⟩ => by
    have h : RdE G tk cl W (mLc (own.map (·.2)) g mt me mi) σ H (fun x H1 => gName i x σ H1 D.nx) :=
      ⟨ι, env, S, r, s, (KS.bind (R1 := RV G) k r).imp fun y H1 ⟨v, ι1, S1, e1, s1, r1, rσ, k1⟩ => k1 _ H1 ι1 .refl s1 (rσ.set r1)⟩
    exact lc_read rfl gg his h
end
end Mi

set_option Elab.async false
set_option linter.all false
set_option maxRecDepth 100000
set_option maxHeartbeats 2000000
namespace Mi
open PySem PySem.Spec PyProof.Rows L2 HT

/-! ### xs[::-1] -/
section
variable {prog : Program} {w : World} {A : Around} {E : Value → Shared → Prop} {s : Shared}
theorem rev_adjust (n : Nat) : Builtin.Slice.sliceAdjust none none (-1) (n : Int) = ((n : Int) - 1, -1) := by
  unfold Builtin.Slice.sliceAdjust
  have h : ((-1 : Int) < 0) := by omega
  simp only [h, if_true]
theorem rev_places (n : Nat) : Builtin.Slice.slicePlaces ((n : Int) - 1) (-1) (-1) = n := by
  unfold Builtin.Slice.slicePlaces
  have h : ¬ ((-1 : Int) > 0) := by omega
  simp only [h, if_false, Int.neg_neg, Int.ediv_one]
  split <;> omega
theorem rev_applied {sl : Addr} {vl vu vs : Value} {n : Nat} {Q : Int × Int × Nat → Shared → Prop} (hs : s.heap.IsSliceOf sl vl vu vs) (pl : IsPart vl none) (pu : IsPart vu none) (ps : IsPart vs (some (-1))) (h : Q ((n : Int) - 1, -1, n) s) : wpAny (model prog w) A (Builtin.Slice.sliceApplied (.ref sl) (pure (n : Int))) Q E s := by
  obtain ⟨os, hos, hcs, hds⟩ := id hs
  unfold Builtin.Slice.sliceApplied Builtin.Slice.sliceFields
  refine wpAny_bind (wpAny_bind (wpAny_field hos hds (x := vl) rfl (wpAny_bind (wpAny_field hos hds (x := vu) rfl (wpAny_bind (wpAny_field hos hds (x := vs) rfl (wpAny_pure ?_)))))))
  refine wpAny_bind (slicePart_ ps ?_)
  show wpAny _ _ (if ((-1 : Int) == 0) = true then _ else _) _ _ s
  rw [if_neg (by decide)]
  refine wpAny_bind (slicePart_ pl (wpAny_bind (slicePart_ pu (wpAny_bind (wpAny_pure ?_)))))
  show wpAny _ _ (match Builtin.Slice.sliceAdjust none none (-1) (n : Int) with | (lo, hi) => pure (lo, (-1 : Int), Builtin.Slice.slicePlaces lo hi (-1))) _ _ s
  rw [rev_adjust]
  show wpAny _ _ (pure ((n : Int) - 1, (-1 : Int), Builtin.Slice.slicePlaces ((n : Int) - 1) (-1) (-1))) _ _ s
  rw [rev_places]
  exact wpAny_pure h
theorem fm_map {α β : Type} {f : α → Option β} {g : α → β} : ∀ {l : List α}, (∀ m ∈ l, f m = some (g m)) → l.filterMap f = l.map g
  | [], _ => rfl
  | a :: l, h => by
    rw [List.filterMap_cons, h a List.mem_cons_self, List.map_cons, fm_map fun m hm => h m (List.mem_cons_of_mem _ hm)]
theorem rev_pick (xs : List Value) : ((List.range xs.length).filterMap fun (m : Nat) => xs.toArray[((xs.length : Int) - 1 + (m : Int) * (-1)).toNat]?).toArray = xs.reverse.toArray := by
  congr 1
  apply List.ext_getElem?
  intro i
  have e : ∀ m, m < xs.length → xs.toArray[((xs.length : Int) - 1 + (m : Int) * (-1)).toNat]? = some (xs.reverse.getD m .none) := fun m hm => by
    have : ((xs.length : Int) - 1 + (m : Int) * (-1)).toNat = xs.length - 1 - m := by omega
    rw [this, List.getElem?_toArray, List.getD_eq_getElem?_getD, List.getElem?_reverse hm]
    cases q : xs[xs.length - 1 - m]? with
    | none => rw [List.getElem?_eq_none_iff] at q; omega
    | some v => rfl
  have e2 : ((List.range xs.length).filterMap fun (m : Nat) => xs.toArray[((xs.length : Int) - 1 + (m : Int) * (-1)).toNat]?) = (List.range xs.length).map fun m => xs.reverse.getD m .none := by
    exact fm_map fun m hm => e m (List.mem_range.mp hm)
  rw [e2, List.getElem?_map]
  by_cases hi : i < xs.length
  · rw [List.getElem?_range hi]
    show some (xs.reverse.getD i .none) = _
    rw [List.getD_eq_getElem?_getD, List.getElem?_eq_getElem (by simpa using hi)]
    rfl
  · rw [List.getElem?_eq_none (by simpa using hi), List.getElem?_eq_none (by simpa using hi)]
    rfl
theorem getItem_tuple_rev {t sl : Addr} {xs : List Value} {vl vu vs : Value} {Q : Value → Shared → Prop} (ht : IsTup s.heap t xs.toArray) (hs : s.heap.IsSliceOf sl vl vu vs) (pl : IsPart vl none) (pu : IsPart vu none) (ps : IsPart vs (some (-1)))
    (h : Q (.ref s.heap.objs.size) { s with heap := s.heap.push { cls := .type "tuple", data := .seq xs.reverse.toArray } }) (hsz : xs.length ≤ sizeLine) : wpAny (model prog w) A (getItem (.ref t) (.ref sl)) Q E s := by
  have hz : sizeOk (.seq xs.reverse.toArray) := by
    show xs.reverse.toArray.size ≤ sizeLine
    rw [List.size_toArray, List.length_reverse]
    exact hsz
  obtain ⟨os, hos, hcs, hds⟩ := id hs
  have hTs : s.TypeIs (.ref sl) "slice" := ⟨os, hos, hcs⟩
  unfold getItem
  try with_reducible refine wpAny_holding ?_
  first | refine wpAny_bind (wpAny_pure ?_) | skip
  refine wpAny_bind (wpAny_sequenceKey ht.typeIs (by decide) ?_)
  refine wpAny_bind (wpAny_callSpecial?_slot (name := Str.ofString "__getitem__") ht.typeIs PyProof.Rows.slot_tuple_getitem (wpAny_call_entry PyProof.Rows.slot_tuple_getitem ht.typeIs entry_tuple_getitem ?_ (args_tuple_getitem _ _)))
  show wpAny _ _ (Builtin.Tuple.tupleItemsOf (.ref t) >>= _) _ _ s
  refine wpAny_bind (tupleItemsOf_ ht ?_)
  refine wpAny_bind (wpAny_typeOf hTs ?_)
  rw [if_pos (by decide)]
  have e0 : ((xs.toArray.size : Nat) : Int) = (xs.length : Int) := by simp
  refine wpAny_bind (show wpAny _ _ (Builtin.Slice.sliceApplied (.ref sl) (pure ((xs.toArray.size : Nat) : Int))) _ _ s from ?_)
  rw [e0]
  refine rev_applied (n := xs.length) hs pl pu ps ?_
  have hno : ¬ (((((xs.length : Int) - 1) == 0) && ((-1 : Int) == 1) && (xs.length == xs.toArray.size)) = true) := by simp
  show wpAny _ _ (if (((((xs.length : Int) - 1) == 0) && ((-1 : Int) == 1) && (xs.length == xs.toArray.size)) = true) then _ else _) _ _ s
  rw [if_neg hno, rev_pick]
  first
    | exact wpAny_bind (m := Builtin.Tuple.tupleExact _) (wpAny_newObj_type (wpAny_pure ⟨_, rfl, wpAny_pure h⟩) hz)
    | exact wpAny_bind (m := Builtin.Tuple.tupleExact _) (wpAny_newObj_type (wpAny_bind (wpAny_pure (wpAny_pure ⟨_, rfl, wpAny_pure h⟩))) hz)
    | exact wpAny_bind (wpAny_bind (m := Builtin.Tuple.tupleExact _) (wpAny_newObj_type (wpAny_pure (wpAny_pure ⟨_, rfl, wpAny_pure h⟩)) hz))
    | exact wpAny_bind (wpAny_bind (m := Builtin.Tuple.tupleExact _) (wpAny_newObj_type (wpAny_pure ⟨_, rfl, wpAny_pure h⟩) hz))
end
def tRevA (K : PySem.W.Frag) (te : TE) : TE := fun σ H Q => te σ H fun x H1 => ∃ a xs, x = .ref a ∧ ((SqL K H1 a xs ∧ ∀ p, H1 p = none → Q (.ref p) (upd H1 p (.lst xs.reverse))) ∨ (SqT K H1 a xs ∧ ∀ p, H1 p = none → Q (.ref p) (upd H1 p (.tup xs.reverse))))
theorem pe_revA {X : Cx} {e : Expr} {te : TE} {k : Nat} {p1 p2 p3 pos : Pos} (he : PE X e te) : PE X (.Subscript e (.Slice none none (some (.UnaryOp .USub (.Constant (.int 1) k p1) p2)) p3) pos) (tRevA X.K te) := by
  refine ⟨fun pins s σ H Q I h => ?_⟩
  refine Subscript_ (thn (he.run pins s σ H _ I h) fun v s1 ⟨x, H1, J1, r1, a, xs, ex, q⟩ => ?_)
  subst ex
  cases r1
  have hst : PO X (some (.UnaryOp .USub (.Constant (.int 1) k p1) p2)) (tPart (tUn (rU fun i => .int (-i)) (tC (.int 1)))) := po_some (pe_un un_neg pe_int)
  refine wpAny_Slice (thn (po_none.run pins s1 σ H1 (fun o H2 => o = none ∧ H2 = H1) J1 ⟨rfl, rfl⟩) fun vl s2 ⟨l, H2, J2, pl, el, e2⟩ => ?_)
  subst el e2
  refine thn (po_none.run pins s2 σ H2 (fun o H3 => o = none ∧ H3 = H2) J2 ⟨rfl, rfl⟩) fun vu s3 ⟨u, H3, J3, pu, eu, e3⟩ => ?_
  subst eu e3
  refine thn (hst.run pins s3 σ H3 (fun o H4 => o = some (-1) ∧ H4 = H3) J3 ⟨1, rfl, -1, rfl, rfl, rfl⟩) fun vs s4 ⟨o, H4, J4, ps, eo, e4⟩ => ?_
  subst eo e4
  have J5 : Inv X pins σ H4 { s4 with heap := s4.heap.push { cls := .type "slice", data := .fields #[vl, vu, vs] } } := J4.kept (t' := s4.toks) fun b ob q => Heap.get?_push_of_some _ q
  show wpAny (model X.prog X.w) X.A (subscriptTail e (.Slice none none (some (.UnaryOp .USub (.Constant (.int 1) k p1) p2)) p3) (.ref a) (.ref s4.heap.objs.size)) (EP X pins σ Q) X.xe { s4 with heap := s4.heap.push { cls := .type "slice", data := .fields #[vl, vu, vs] } }
  rcases q with ⟨hx, q⟩ | ⟨hx, q⟩
  · obtain ⟨its, r, ht, hz⟩ := J5.list hx
    have hlen := r.length
    refine tail_any (ops := [.ref a, .ref s4.heap.objs.size]) ht.isList.typeIs (PySem.slot_list_getitem.lookup) ?_ (by with_unfolding_all rfl)
    refine wpAny_getItem_list_slice ht.isList (Heap.IsSliceOf.new _ vl vu vs) pl pu ps (by decide) ?_ (by rw [List.size_toArray]; omega)
    rw [PySem.W.krv_pick]
    refine ⟨.ref _, _, J5.laid (t' := s4.toks) (o := .lst xs.reverse) (fun b ob q => Heap.get?_push_of_some _ q) (Nat.le_refl _) ?_, rfl, q _ (J5.hok.fresh (Nat.le_refl _))⟩
    exact ⟨by rw [List.length_reverse]; exact hz, _, 0, r.reverse, Heap.get?_push_size _ rfl⟩
  · obtain ⟨its, r, ht, hz⟩ := J5.tuple hx
    have hlen := r.length
    refine tail_any (ops := [.ref a, .ref s4.heap.objs.size]) ht.typeIs (PyProof.Rows.slot_tuple_getitem.lookup) ?_ (by with_unfolding_all rfl)
    refine getItem_tuple_rev (xs := its) ht (Heap.IsSliceOf.new _ vl vu vs) pl pu ps ?_ (by omega)
    refine ⟨.ref _, _, J5.laid (t' := s4.toks) (o := .tup xs.reverse) (fun b ob q => Heap.get?_push_of_some _ q) (Nat.le_refl _) ?_, rfl, q _ (J5.hok.fresh (Nat.le_refl _))⟩
    exact ⟨by rw [List.length_reverse]; exact hz, _, r.reverse, IsTup.new _ _⟩
def revP (v : PV) (S : Sto) : Option (PV × Sto) := match v with
  | .tup xs => some (.tup xs.reverse, S)
  | .fl xs => some (.lst S.length, S ++ [.lst xs.reverse])
  | .lst i => match cellL S i with
    | some xs => some (.lst S.length, S ++ [.lst xs.reverse])
    | none => none
  | _ => none
theorem re_rev {G : Gc} {tk : Tks} {cl : Cl} {W : WX} {X : Cx} {e : Expr} {m : ME} {k : Nat} {p1 p2 p3 pos : Pos} (hK : X.K = G.K) (he : PE X e (RdE G tk cl W m)) : PE X (.Subscript e (.Slice none none (some (.UnaryOp .USub (.Constant (.int 1) k p1) p2)) p3) pos) (RdE G tk cl W (m1 revP m)) :=
  PE.imp (pe_revA he) fun σ H Q ⟨ι, env, S, r, s, q⟩ => ⟨ι, env, S, r, s, (KE.bind (R1 := RV G) q).imp fun x H1 ⟨v, ι1, S1, e1, s1, r1, k1⟩ => by
    rw [hK]
    have k1 := k1.o
    unfold revP at k1
    split at k1
    · obtain ⟨a, vs, rfl, h1, h2⟩ := rep_tup.mp r1
      exact ⟨a, vs, rfl, .inr ⟨h1, KO.tup k1 s1 h2.rev⟩⟩
    · obtain ⟨a, vs, rfl, h1, h2⟩ := rep_fl r1
      exact ⟨a, vs, rfl, .inl ⟨h1, KO.lst k1 s1 h2.rev⟩⟩
    · split at k1
      · rename_i xs ec
        obtain ⟨rfl, hi⟩ := rep_lst.mp r1
        obtain ⟨_, vs, h1, h2⟩ := s1.get ec
        exact ⟨_, vs, rfl, .inl ⟨SqL.of h1, KO.lst k1 s1 h2.rev⟩⟩
      · exact k1.elim
    · exact k1.elim⟩
end Mi

set_option Elab.async false
set_option linter.all false
set_option maxRecDepth 100000
set_option maxHeartbeats 2000000
namespace Mi
open PySem PySem.Spec PyProof.Rows L2

/-! ### names as lists of code points -/
abbrev Nm := List Nat
def nmOf (x : Str) : Nm := x.cps.toList
theorem mk_nm (x : Str) : mkS (nmOf x) = x := by
  show (⟨x.cps.toList.toArray⟩ : Str) = x
  rw [Array.toArray_toList]
theorem nm_mk (l : Nm) : nmOf (mkS l) = l := by
  show l.toArray.toList = l
  simp
theorem nm_inj {x y : Str} (h : nmOf x = nmOf y) : x = y := by rw [← mk_nm x, h, mk_nm]
def eqN : Nm → Nm → Bool
  | [], [] => true
  | a :: as, b :: bs => Nat.beq a b && eqN as bs
  | _, _ => false
theorem eqN_iff : ∀ {a b : Nm}, eqN a b = true ↔ a = b
  | [], [] => by simp [eqN]
  | [], _ :: _ => by simp [eqN]
  | _ :: _, [] => by simp [eqN]
  | a :: as, b :: bs => by
    simp only [eqN, Bool.and_eq_true, Nat.beq_eq, List.cons.injEq, eqN_iff]
theorem eqN_refl (a : Nm) : eqN a a = true := eqN_iff.mpr rfl
theorem eqN_str {x y : Str} : eqN (nmOf x) (nmOf y) = (x == y) := by
  cases h : (x == y) with
  | true =>
    have e : x = y := by simpa using h
    rw [e]; exact eqN_refl _
  | false =>
    cases q : eqN (nmOf x) (nmOf y) with
    | false => rfl
    | true =>
      have e := nm_inj (eqN_iff.mp q)
      rw [e] at h; simp at h
def lookN {α : Type} : List (Nm × α) → Nm → Option α
  | [], _ => none
  | (n, a) :: r, x => match eqN x n with
    | true => some a
    | false => lookN r x
def nrm (l : List (Str × NameKind)) : List (Nm × NameKind) := l.map fun p => (nmOf p.1, p.2)
theorem look_nrm : ∀ (l : List (Str × NameKind)) (x : Str), lookN (nrm l) (nmOf x) = l.lookup x
  | [], x => rfl
  | (n, k) :: r, x => by
    show lookN ((nmOf n, k) :: nrm r) (nmOf x) = _
    rw [lookN, eqN_str, List.lookup_cons]
    cases x == n with
    | true => rfl
    | false => exact look_nrm r x
def idxN : List Nm → Nm → Option Nat
  | [], _ => none
  | n :: r, x => match eqN x n with
    | true => some 0
    | false => (idxN r x).map (· + 1)
theorem idx_get : ∀ {l : List Nm} {x : Nm} {i : Nat}, idxN l x = some i → l[i]? = some x
  | n :: r, x, i, h => by
    rw [idxN] at h
    cases e : eqN x n with
    | true =>
      rw [e] at h
      cases h
      rw [eqN_iff.mp e]; rfl
    | false =>
      rw [e] at h
      cases q : idxN r x with
      | none => rw [q] at h; cases h
      | some j =>
        rw [q] at h
        cases h
        simpa using idx_get q
theorem idx_none : ∀ {l : List Nm} {x : Nm}, idxN l x = none → x ∉ l
  | [], x, _ => by simp
  | n :: r, x, h => by
    rw [idxN] at h
    cases e : eqN x n with
    | true => rw [e] at h; cases h
    | false =>
      rw [e] at h
      have q : idxN r x = none := by
        cases q : idxN r x with
        | none => rfl
        | some j => rw [q] at h; cases h
      intro hm
      rcases List.mem_cons.mp hm with z | z
      · rw [z, eqN_refl] at e; cases e
      · exact idx_none q z
theorem idx_N {N : List Str} {C : List Nm} {x : Str} {i : Nat} (hN : N = C.map mkS) (h : idxN C (nmOf x) = some i) : N[i]? = some x := by
  rw [hN, List.getElem?_map, idx_get h]
  show some (mkS (nmOf x)) = some x
  rw [mk_nm]

/-! ### what a global name is -/
inductive GV where
  | fn (j : Nat) | exc (c : Nat) | bl (b : Nat) | ty (t : Nat) | ci (i : Int) | cs (l : List Nat) | ct (v : PV)
/-- built-ins: 0 len, 1 abs, 2 gcd, 3 max, 4 min, 5 sum, 6 all, 7 any, 8 isinstance -/
def bltS : Nat → String
  | 0 => "len"
  | 1 => "abs"
  | 2 => "math.gcd"
  | 3 => "max"
  | 4 => "min"
  | 5 => "sum"
  | 6 => "all"
  | 7 => "any"
  | _ => "isinstance"
def bltO : Nat → OL
  | 0 => bLen
  | 1 => bAbs
  | 2 => bGcd
  | 3 => bMax
  | 4 => bMin
  | 5 => bSum
  | 6 => bAll
  | 7 => bAny
  | _ => fun _ _ => none
/-- 9 range, 10 enumerate, 11 zip -/
def itS : Nat → String
  | 9 => "range"
  | 10 => "enumerate"
  | _ => "zip"
def GvOk (G : Gc) (mg : Str → Option Value) (x : Nm) : GV → Prop
  | .fn j => mg (mkS x) = some (.ref (G.ga j)) ∧ (mkS x == ("__debug__" : Str)) = false
  | .exc c => mg (mkS x) = some (.ref (G.ga c)) ∧ (mkS x == ("__debug__" : Str)) = false ∧ PySem.W.keepIn G.K (.ref (G.ga c)) = true ∧ ∃ (B newId initId : String) (bmB : List Value), ExcBaseFacts B newId initId bmB ∧ PySem.W.excIn G.K (G.ga c) bmB newId = true ∧
      PySem.W.subIn G.K (.ref (G.ga c)) (.type "BaseException") = some true ∧ PySem.W.typeIn G.K (.ref (G.ga c)) = some (.type "type")
  | .bl b => (b = 2 ∧ mg (mkS x) = some (.builtin "math.gcd") ∧ (mkS x == ("__debug__" : Str)) = false) ∨ (b ≠ 2 ∧ b < 9 ∧ mg (mkS x) = none ∧ bootBuiltins (mkS x) = some (.builtin (bltS b)) ∧ mkS x ≠ "__name__" ∧ (mkS x == ("__debug__" : Str)) = false) ∨ (9 ≤ b ∧ mkS x = Str.ofString (itS b) ∧ mg (Str.ofString (itS b)) = none)
  | .ci i => (∃ u, mg (mkS x) = some u ∧ RelV (.int i) u) ∧ (mkS x == ("__debug__" : Str)) = false
  | .cs l => (∃ u, mg (mkS x) = some u ∧ RelV (.str (mkS l)) u) ∧ (mkS x == ("__debug__" : Str)) = false
  | .ct v => (∃ u y, mg (mkS x) = some u ∧ RelV y u ∧ ∀ (H : Hp) (ι : Nat → Addr) (n : Nat), Rep G.K G.ga H ι n v y) ∧ (mkS x == ("__debug__" : Str)) = false
  | .ty t => t < 5 ∧ mg (mkS x) = none ∧ bootBuiltins (mkS x) = some (.type (tyS t)) ∧ mkS x ≠ "__name__" ∧ (mkS x == ("__debug__" : Str)) = false

/-! ### the compiler's context -/
structure Cc where
  N : List Nm
  sk : List (Nm × NameKind)
  gl : List (Nm × GV)
  isF : Nat → Bool
  isL : Nat → Bool
  sub : Nat → Nat → Option Bool
  fnc : Nm → Bool
  calm : Bool
  act : Bool
  lam : Bool
  ise : Bool

structure LamOk (G : Gc) (C : Cc) (X : Cx) (k : Nat) (cl : Cl) : Prop where
  ex : (∀ j clo S, cl.callL j clo S = .err) ∨ ∃ (k0 : Nat) (cb : Call) (c P : Addr), k = k0 + 2 ∧ LamX.TabB X.base X.mg c P ∧ X.env.code = .ref c ∧ (P, X.env.qual ++ "<lambda>") ∈ G.T ∧ (∀ p ∈ G.T, p.1 = P → p.2 = X.env.qual ++ "<lambda>") ∧
    (∀ j, C.isL j = true → LamAt G X.prog X.w X.mg X.base (k0 + 1) (cl.callL j) cb j) ∧ (∀ j, C.isF j = true → FnAt G X.prog X.w X.mg X.base k0 cb j)
structure Okx (G : Gc) (C : Cc) (tk : Tks) (cl : Cl) (W : WX) (k : Nat) (X : Cx) : Prop where
  K : X.K = G.K
  N : X.N = C.N.map mkS
  nd : X.N.Nodup
  knd : X.env.scope.kind = .function
  sk : nrm X.env.scope.names = C.sk
  gl : ∀ x v, lookN C.gl x = some v → GvOk G X.mg x v
  fns : ∀ j, C.isF j = true → FnAt G X.prog X.w X.mg X.base k cl.call j
  room : C.calm = true → Room k X.A
  un : X.A.units + 64 < cLine
  calm : C.calm = true → X.calm = true
  hot : C.calm = false → L2H.HotC X
  tak : L2N.Takes X W
  fn : ∀ x, C.fnc (nmOf x) = true → X.fn x = true
  ise : C.ise = true → ∀ a d p b c, tk.ex = some (a, d, p) → C.sub d c = some b → CallR X (.builtin "isinstance") (rIsE X.K (G.ga d) a)
  sub : ∀ d c b, C.sub d c = some b → PySem.W.kitOne G.K (.ref (G.ga d)) (.ref (G.ga c)) = some b ∧ PySem.W.exmOne G.K (.ref (G.ga d)) (.ref (G.ga c)) = some b ∧ ExcC G.K (G.ga d)
  act : C.act = true → ∀ (pn : List (Addr × Obj)) (xe : Value → Shared → Prop) (W' : WX) (a : Str) (p1 p2 : Pos), L2N.Takes (X.tr pn xe) W' → X.N[0]? = some a → PE (X.tr pn xe) (.Call (.Name a p1) [] [] p2) (RdE G tk cl W' (mAct 0))
  lam : C.lam = true → LamOk G C X k cl

/-! ### forms -/
def isStar : Expr → Bool
  | .Starred .. => true
  | _ => false
theorem star_cons {e : Expr} {es : List Expr} {env : PySem.Env} (h : isStar e = false) : starEach (e :: es) env = (false, eval e env) :: starEach es env := by
  cases e <;> first | rfl | cases h
def noStar : List Expr → Bool
  | [] => true
  | e :: es => !isStar e && noStar es
theorem star_plain : ∀ {es : List Expr} {env : PySem.Env} {pos : Pos}, noStar es = true → (backTo pos (starEach es env)).any (·.1) = false
  | [], _, _, _ => rfl
  | e :: es, env, pos, h => by
    have h' : (!isStar e) = true ∧ noStar es = true := by simpa [noStar] using h
    rw [star_cons (by simpa using h'.1)]
    show (false || _) = false
    rw [Bool.false_or]
    exact star_plain h'.2
theorem star_all : ∀ {es : List Expr} {env : PySem.Env} {pos : Pos}, noStar es = true → (backTo pos (starEach es env)).all (fun x => !x.1) = true
  | [], _, _, _ => rfl
  | e :: es, env, pos, h => by
    have h' : (!isStar e) = true ∧ noStar es = true := by simpa [noStar] using h
    rw [star_cons (by simpa using h'.1)]
    show (!false && _) = true
    rw [Bool.not_false, Bool.true_and]
    exact star_all h'.2
theorem asg_len : ∀ {es : List Expr} {env : PySem.Env}, noStar es = true → (assignEach es env).length = es.length ∧ (assignEach es env).findIdx? (·.1) = none
  | [], _, _ => ⟨rfl, rfl⟩
  | e :: es, env, h => by
    have h' : (!isStar e) = true ∧ noStar es = true := by simpa [noStar] using h
    obtain ⟨h1, h2⟩ := asg_len (env := env) h'.2
    have q : assignEach (e :: es) env = (false, assign e env) :: assignEach es env := by
      have hs : isStar e = false := by simpa using h'.1
      cases e <;> first | rfl | cases hs
    rw [q]
    refine ⟨by rw [List.length_cons, List.length_cons, h1], ?_⟩
    rw [List.findIdx?_cons, h2]
    rfl
theorem asg_cons {e : Expr} {es : List Expr} {env : PySem.Env} (h : isStar e = false) : (assignEach (e :: es) env).map (·.2) = assign e env :: (assignEach es env).map (·.2) := by
  cases e <;> first | rfl | cases h
/-- no comprehension -/
def notComp : Expr → Bool
  | .ListComp .. => false
  | .SetComp .. => false
  | .DictComp .. => false
  | _ => true
theorem swaps_no {e : Expr} {t : Option Expr} {l : Nat} {env : PySem.Env} (h : notComp e = true) : swapsWith e t l env = pure false := by
  cases e <;> first | rfl | cases h
theorem swaps_sub {e o i : Expr} {p : Pos} {l : Nat} {env : PySem.Env} : swapsWith e (some (.Subscript o i p)) l env = pure false := by
  cases e <;> rfl
theorem swaps_tup {e : Expr} {ts : List Expr} {k : Nat} {p : Pos} {l : Nat} {env : PySem.Env} : swapsWith e (some (.Tuple ts k p)) l env = pure false := by
  cases e <;> rfl
/-- a test that is its value's truth -/
def truForm : Expr → Bool
  | .UnaryOp .Not _ _ => false
  | .BoolOp .. => false
  | .IfExp .. => false
  | .Compare .. => false
  | _ => true
theorem tru_form {e : Expr} {env : PySem.Env} (h : truForm e = true) (whole : Sem Value) : isTrue e env whole = (do let v ← whole; standAt e.pos; holding [v] (truthy v)) := by
  cases e with
  | UnaryOp op a p => cases op <;> first | rfl | cases h
  | BoolOp => cases h
  | IfExp => cases h
  | Compare => cases h
  | _ => rfl
def notSet : Expr → Bool
  | .Set .. => false
  | _ => true
theorem folded_no {e : Expr} {env : PySem.Env} (h : notSet e = true) (x : Value) : foldedSetIterable e env x = pure x := by
  cases e <;> first | rfl | cases h
theorem marks_no {e : Expr} {op : CmpOp} (h : notSet e = true) : behindInMarks op e = false := by
  cases e <;> first | rfl | cases h
def notSlice : Expr → Bool
  | .Slice .. => false
  | _ => true
theorem ix_plain {e : Expr} (h : notSlice e = true) : PlainIx e := by
  intro o i
  cases e <;> first | rfl | cases h
/-- no super() -/
def notCall0 : Expr → Bool
  | .Call (.Name _ _) [] [] _ => false
  | _ => true
theorem attr_no {o : Expr} {a : Str} {env : PySem.Env} {whole : Sem Value} (h : notCall0 o = true) : attributeBase o a env whole = whole := by
  unfold attributeBase
  split
  · cases h
  · rfl
end Mi

set_option Elab.async false
set_option linter.all false
set_option maxRecDepth 100000
set_option maxHeartbeats 2000000
namespace Mi
open PySem PySem.Spec PyProof.Rows L2

def gd {α : Type} (b : Bool) (x : Option α) : Option α := match b with
  | true => x
  | false => none
theorem gd_iff {α : Type} {b : Bool} {x : Option α} {y : α} : gd b x = some y ↔ b = true ∧ x = some y := by
  cases b <;> simp [gd]
structure Cp where
  e : Cc → Expr → Option ME
  b : Cc → Expr → Option MB
def Snd (P : Cp) : Prop := ∀ {G : Gc} {C : Cc} {tk : Tks} {cl : Cl} {W : WX} {k : Nat} {X : Cx}, Okx G C tk cl W k X → (∀ e m, P.e C e = some m → PE X e (RdE G tk cl W m)) ∧ (∀ e t, P.b C e = some t → PT X e (RdB G tk cl W t))

/-! ### argument lists, chains -/
def cA (P : Cp) (C : Cc) : List Expr → Option MA
  | [] => some aN
  | e :: es => gd (!isStar e) ((P.e C e).bind fun a => (cA P C es).bind fun r => some (aC a r))
def cAndV (P : Cp) (C : Cc) : List Expr → Option ME
  | [] => none
  | [a] => P.e C a
  | a :: b :: r => (P.e C a).bind fun x => (cAndV P C (b :: r)).bind fun y => some (mAn x y)
def cOrV (P : Cp) (C : Cc) : List Expr → Option ME
  | [] => none
  | [a] => P.e C a
  | a :: b :: r => (P.e C a).bind fun x => (cOrV P C (b :: r)).bind fun y => some (mO x y)
def cAndT (P : Cp) (C : Cc) : List Expr → Option MB
  | [] => none
  | [a] => P.b C a
  | a :: b :: r => (P.b C a).bind fun x => (cAndT P C (b :: r)).bind fun y => some (tAn x y)
def cOrT (P : Cp) (C : Cc) : List Expr → Option MB
  | [] => none
  | [a] => P.b C a
  | a :: b :: r => (P.b C a).bind fun x => (cOrT P C (b :: r)).bind fun y => some (tO x y)
section
variable {P : Cp} {G : Gc} {C : Cc} {tk : Tks} {cl : Cl} {W : WX} {k : Nat} {X : Cx}
theorem cA_ok (hP : Snd P) (o : Okx G C tk cl W k X) : ∀ {es : List Expr} {m : MA}, cA P C es = some m → PA X es (RdA G tk cl W m)
  | [], m, h => by cases h; exact ra_nil
  | e :: es, m, h => by
    simp only [cA, gd_iff, Option.bind_eq_some_iff, Option.some.injEq, Bool.not_eq_true'] at h
    obtain ⟨hs, a, ha, r, hr, rfl⟩ := h
    exact ra_cons ((hP o).1 e a ha) (cA_ok hP o hr) (star_cons hs)
theorem cA_star : ∀ {es : List Expr} {m : MA}, cA P C es = some m → noStar es = true
  | [], m, h => rfl
  | e :: es, m, h => by
    simp only [cA, gd_iff, Option.bind_eq_some_iff, Option.some.injEq, Bool.not_eq_true'] at h
    obtain ⟨hs, a, ha, r, hr, rfl⟩ := h
    simp [noStar, hs, cA_star hr]
theorem cA_len : ∀ {es : List Expr} {m : MA}, cA P C es = some m → ∀ (cl : Cl) (env : Env) (S : Sto) (xs : List PV) (S' : Sto), m cl env S = .ok xs S' → xs.length = es.length
  | [], m, h, cl, env, S, xs, S', q => by cases h; cases q; rfl
  | e :: es, m, h, cl, env, S, xs, S', q => by
    simp only [cA, gd_iff, Option.bind_eq_some_iff, Option.some.injEq, Bool.not_eq_true'] at h
    obtain ⟨hs, a, ha, r, hr, rfl⟩ := h
    simp only [aC, bnd] at q
    split at q
    · split at q
      · cases q
        rename_i ys S2 e2
        rw [List.length_cons, List.length_cons, cA_len hr cl env _ _ _ e2]
      · cases q
      · cases q
    · cases q
    · cases q
theorem cAndV_ok (hP : Snd P) (o : Okx G C tk cl W k X) {pos : Pos} : ∀ {es : List Expr} {m : ME}, cAndV P C es = some m → PE X (.BoolOp .And es pos) (RdE G tk cl W m)
  | [], m, h => by cases h
  | [a], m, h => re_one ((hP o).1 a m h)
  | a :: b :: r, m, h => by
    simp only [cAndV, Option.bind_eq_some_iff, Option.some.injEq] at h
    obtain ⟨x, hx, y, hy, rfl⟩ := h
    exact re_and o.K ((hP o).1 a x hx) (cAndV_ok hP o hy)
theorem cOrV_ok (hP : Snd P) (o : Okx G C tk cl W k X) {pos : Pos} : ∀ {es : List Expr} {m : ME}, cOrV P C es = some m → PE X (.BoolOp .Or es pos) (RdE G tk cl W m)
  | [], m, h => by cases h
  | [a], m, h => re_one ((hP o).1 a m h)
  | a :: b :: r, m, h => by
    simp only [cOrV, Option.bind_eq_some_iff, Option.some.injEq] at h
    obtain ⟨x, hx, y, hy, rfl⟩ := h
    exact re_or o.K ((hP o).1 a x hx) (cOrV_ok hP o hy)
theorem cAndT_ok (hP : Snd P) (o : Okx G C tk cl W k X) {pos : Pos} : ∀ {es : List Expr} {m : MB}, cAndT P C es = some m → PW X (.BoolOp .And es pos) (RdB G tk cl W m)
  | [], m, h => by cases h
  | [a], m, h => rw_and1 ((hP o).2 a m h)
  | a :: b :: r, m, h => by
    simp only [cAndT, Option.bind_eq_some_iff, Option.some.injEq] at h
    obtain ⟨x, hx, y, hy, rfl⟩ := h
    exact rw_and ((hP o).2 a x hx) (cAndT_ok hP o hy)
theorem cOrT_ok (hP : Snd P) (o : Okx G C tk cl W k X) {pos : Pos} : ∀ {es : List Expr} {m : MB}, cOrT P C es = some m → PW X (.BoolOp .Or es pos) (RdB G tk cl W m)
  | [], m, h => by cases h
  | [a], m, h => rw_or1 ((hP o).2 a m h)
  | a :: b :: r, m, h => by
    simp only [cOrT, Option.bind_eq_some_iff, Option.some.injEq] at h
    obtain ⟨x, hx, y, hy, rfl⟩ := h
    exact rw_or ((hP o).2 a x hx) (cOrT_ok hP o hy)
end

/-! ### operators -/
def opB : Operator → Option O2
  | .Add => some opAdd
  | .Sub => some opSub
  | .Mult => some opMul
  | .FloorDiv => some opDiv
  | .Mod => some opMod
  | .Pow => some opPow
  | _ => none
theorem opB_ok {G : Gc} {X : Cx} (hK : X.K = G.K) {op : Operator} {g : O2} (h : opB op = some g) : OpR X (binaryOp op) (rO2 G g) := by
  cases op <;> try (cases h; done)
  all_goals cases h
  · exact ok_add hK
  · exact ok_sub
  · exact ok_mul hK
  · exact ok_mod
  · exact ok_pow
  · exact ok_div
def opC : CmpOp → Option O2
  | .Eq => some cEq
  | .NotEq => some cNe
  | .Lt => some (cInt fun i j => decide (i < j))
  | .LtE => some (cInt fun i j => decide (i ≤ j))
  | .Gt => some (cInt fun i j => decide (j < i))
  | .GtE => some (cInt fun i j => decide (j ≤ i))
  | .Is => some cIs
  | .IsNot => some cIsN
  | .In => some cIn
  | .NotIn => some cNi
theorem opC_ok {G : Gc} {X : Cx} (hK : X.K = G.K) (hu : X.A.units + 64 < cLine) {op : CmpOp} {g : O2} (h : opC op = some g) : OpR X (compareOp op) (rO2 G g) := by
  cases op <;> cases h
  · exact ok_eq hK hu
  · exact ok_ne hK hu
  · exact ok_cInt op_lt
  · exact ok_cInt op_le
  · exact ok_cInt op_gt
  · exact ok_cInt op_ge
  · exact ok_is
  · exact ok_isN
  · exact ok_in hK hu
  · exact ok_ni hK hu

/-! ### names -/
def dbN : Nm := [95, 95, 100, 101, 98, 117, 103, 95, 95]
def cdN : Nm := [95, 95, 99, 108, 97, 115, 115, 100, 105, 99, 116, 95, 95]
theorem db_eq : nmOf ("__debug__" : Str) = dbN := by decide +kernel
theorem cd_eq : nmOf ("__classdict__" : Str) = cdN := by decide +kernel
def plainN (x : Nm) : Bool := !eqN x dbN && !eqN x cdN
theorem plain_db {x : Str} (h : plainN (nmOf x) = true) : (x == ("__debug__" : Str)) = false ∧ (x == ("__classdict__" : Str)) = false := by
  simp only [plainN, Bool.and_eq_true, Bool.not_eq_true'] at h
  rw [← db_eq, ← cd_eq, eqN_str, eqN_str] at h
  exact h
def visK (C : Cc) (x : Nm) : Bool := match lookN C.sk x with
  | some .local => true
  | some .cell => true
  | some .free => true
  | _ => false
def glK (C : Cc) (x : Nm) : Bool := match lookN C.sk x with
  | some .globalImplicit => true
  | _ => false
/-- the slot of a local name -/
def slotI (C : Cc) (x : Nm) : Option Nat := gd (plainN x && visK C x) (idxN C.N x)
def glV (C : Cc) (x : Nm) : Option GV := gd (glK C x) (lookN C.gl x)
def cName (C : Cc) (x : Str) : Option ME := match slotI C (nmOf x) with
  | some i => some (mV i)
  | none => match glV C (nmOf x) with
    | some (.fn j) => some (mC (.g j))
    | some (.ci i) => some (mC (.int i))
    | some (.cs l) => some (mC (.str l))
    | some (.ct v) => some (mC v)
    | _ => none
section
variable {G : Gc} {C : Cc} {tk : Tks} {cl : Cl} {W : WX} {k : Nat} {X : Cx}
theorem Okx.lk (o : Okx G C tk cl W k X) (x : Str) : lookN C.sk (nmOf x) = X.env.scope.names.lookup x := by rw [← o.sk, look_nrm]
theorem slot_ok (o : Okx G C tk cl W k X) {x : Str} {i : Nat} (h : slotI C (nmOf x) = some i) : X.N[i]? = some x ∧ Vis X.env.scope x ∧ (x == ("__debug__" : Str)) = false ∧ (x == ("__classdict__" : Str)) = false := by
  simp only [slotI, gd_iff, Bool.and_eq_true] at h
  obtain ⟨⟨h1, h2⟩, h3⟩ := h
  obtain ⟨h4, h5⟩ := plain_db h1
  refine ⟨idx_N o.N h3, ?_, h4, h5⟩
  unfold visK at h2
  rw [o.lk x] at h2
  unfold Vis
  split at h2 <;> first | (rename_i e; first | exact .inl e | exact .inr (.inl e) | exact .inr (.inr e)) | cases h2
theorem gl_ok (o : Okx G C tk cl W k X) {x : Str} {v : GV} (h : glV C (nmOf x) = some v) : Gl X x ∧ GvOk G X.mg (nmOf x) v := by
  simp only [glV, gd_iff] at h
  obtain ⟨h1, h2⟩ := h
  refine ⟨?_, o.gl _ _ h2⟩
  unfold glK at h1
  rw [o.lk x] at h1
  split at h1
  · rename_i e; exact e
  · cases h1
theorem cName_ok (o : Okx G C tk cl W k X) {x : Str} {m : ME} {pos : Pos} (h : cName C x = some m) : PE X (.Name x pos) (RdE G tk cl W m) := by
  unfold cName at h
  split at h
  · rename_i i e
    cases h
    obtain ⟨h1, h2, h3, h4⟩ := slot_ok o e
    exact re_v h1 h2 h3 h4
  · split at h
    · rename_i j e
      cases h
      obtain ⟨h1, h2, h3⟩ := gl_ok o e
      rw [mk_nm] at h2 h3
      exact re_c (pe_glob h1 h2 (v := .ref (G.ga j)) rfl h3) fun _ _ _ => rep_g.mpr rfl
    · rename_i i e
      cases h
      obtain ⟨h1, ⟨u, h2, h4⟩, h3⟩ := gl_ok o e
      rw [mk_nm] at h2 h3
      exact re_c (pe_glob h1 h2 h4 h3) fun _ _ _ => rep_int.mpr rfl
    · rename_i l e
      cases h
      obtain ⟨h1, ⟨u, h2, h4⟩, h3⟩ := gl_ok o e
      rw [mk_nm] at h2 h3
      exact re_c (pe_glob h1 h2 h4 h3) fun _ _ _ => rep_str.mpr rfl
    · rename_i v e
      cases h
      obtain ⟨h1, ⟨u, y, h2, h4, h5⟩, h3⟩ := gl_ok o e
      rw [mk_nm] at h2 h3
      exact re_c (pe_glob h1 h2 h4 h3) h5
    · cases h

/-! ### targets -/
def cGs (f : Expr → Option (MG × List Nat)) : List Expr → Option (MGs × List Nat)
  | [] => some (gN, [])
  | e :: es => (f e).bind fun a => (cGs f es).bind fun r => some (gC a.1 r.1, a.2 ++ r.2)
def setK (C : Cc) (x : Nm) : Bool := match lookN C.sk x with
  | some .local => true
  | some .cell => C.fnc x
  | _ => false
def cG (C : Cc) : Nat → Expr → Option (MG × List Nat)
  | 0, _ => none
  | n + 1, e => match e with
    | .Name x _ => gd (setK C (nmOf x)) ((idxN C.N (nmOf x)).bind fun i => some (gV i, [i]))
    | .Tuple es _ _ => gd (noStar es) ((cGs (cG C n) es).bind fun r => some (gT r.1, r.2))
    | _ => none
theorem set_ok (o : Okx G C tk cl W k X) {x : Str} (h : setK C (nmOf x) = true) : Loc X.env.scope x ∧ (X.fn x = true ∨ X.env.scope.names.lookup x = some .local) := by
  unfold setK at h
  rw [o.lk x] at h
  unfold L2.Loc
  split at h
  · rename_i e; exact ⟨.inl e, .inr e⟩
  · rename_i e; exact ⟨.inr e, .inl (o.fn x h)⟩
  · cases h
def tgsR (f : Expr → TG) : List Expr → TGs
  | [] => gNil
  | e :: es => gCons (f e) (tgsR f es)
/-- a target's reading -/
def tgR (K : PySem.W.Frag) (C : Cc) : Nat → Expr → TG
  | 0, _ => fun _ _ _ _ => False
  | n + 1, e => match e with
    | .Name x _ => gName ((idxN C.N (nmOf x)).getD 0)
    | .Tuple es _ _ => gTup K es.length (tgsR (tgR K C n) es)
    | _ => fun _ _ _ _ => False
theorem cGs_ok {f : Expr → Option (MG × List Nat)} {fT : Expr → TG} (hf : ∀ e g is, f e = some (g, is) → PG X e (fT e) ∧ GOk G tk is (fT e) g) : ∀ {es : List Expr} {g : MGs} {is : List Nat}, noStar es = true → cGs f es = some (g, is) → PGs X es (tgsR fT es) ∧ GsOk G tk is es.length (tgsR fT es) g
  | [], g, is, _, h => by cases h; exact ⟨pgs_nil, g_n⟩
  | e :: es, g, is, hs, h => by
    have h' : (!isStar e) = true ∧ noStar es = true := by simpa [noStar] using hs
    simp only [cGs, Option.bind_eq_some_iff, Option.some.injEq, Prod.mk.injEq] at h
    obtain ⟨⟨a, ia⟩, ha, ⟨r, ir⟩, hr, rfl, rfl⟩ := h
    obtain ⟨p1, q1⟩ := hf e a ia ha
    obtain ⟨p2, q2⟩ := cGs_ok hf h'.2 hr
    exact ⟨pgs_cons p1 p2 (asg_cons (by simpa using h'.1)), g_c q1 q2⟩
theorem cG_ok (o : Okx G C tk cl W k X) : ∀ (n : Nat) (e : Expr) (g : MG) (is : List Nat), cG C n e = some (g, is) → PG X e (tgR G.K C n e) ∧ GOk G tk is (tgR G.K C n e) g
  | 0, e, g, is, h => by cases h
  | n + 1, e, g, is, h => by
    cases e with
    | Name x p =>
      simp only [cG, gd_iff, Option.bind_eq_some_iff, Option.some.injEq, Prod.mk.injEq] at h
      obtain ⟨h1, i, hi, rfl, rfl⟩ := h
      obtain ⟨h2, h3⟩ := set_ok o h1
      simp only [tgR, hi, Option.getD_some]
      exact ⟨pg_name o.nd (idx_N o.N hi) h2 h3, g_v⟩
    | Tuple es kk p =>
      simp only [cG, gd_iff, Option.bind_eq_some_iff, Option.some.injEq, Prod.mk.injEq] at h
      obtain ⟨h1, ⟨r, ir⟩, hr, rfl, rfl⟩ := h
      obtain ⟨p1, q1⟩ := cGs_ok (cG_ok o n) h1 hr
      obtain ⟨a1, a2⟩ := asg_len (env := X.env) h1
      simp only [tgR]
      cases hc : C.calm with
      | true => exact ⟨by rw [← o.K]; rw [← o.K] at p1; exact pg_tup (o.calm hc) p1 a1 a2, g_t q1⟩
      | false => exact ⟨by rw [← o.K]; rw [← o.K] at p1; exact pg_tupH (o.hot hc) p1 a1 a2, g_t q1⟩
    | _ => simp [cG] at h
end
end Mi

set_option Elab.async false
set_option linter.all false
set_option maxRecDepth 100000
set_option maxHeartbeats 2000000
namespace Mi
open PySem PySem.Spec PyProof.Rows L2

/-! ### what a loop walks -/
def isTup : Expr → Bool
  | .Tuple .. => true
  | _ => false
def cIc (P : Cp) (C : Cc) (tg : Expr) (x : Str) (args : List Expr) : Option MI := match glV C (nmOf x) with
  | some (.bl 9) => gd (Nat.ble 1 args.length && Nat.ble args.length 3) ((cA P C args).bind fun a => some (iR a))
  | some (.bl 10) => gd (isTup tg && Nat.beq args.length 1) ((cA P C args).bind fun a => some (iE a))
  | some (.bl 11) => gd (isTup tg && Nat.beq args.length 2) ((cA P C args).bind fun a => some (iZ a))
  | _ => none
def cI (P : Cp) (C : Cc) (tg iter : Expr) : Option MI := match iter with
  | .Call (.Name x p) args [] pos => match cIc P C tg x args with
    | some m => some m
    | none => (P.e C iter).bind fun a => some (iA a)
  | _ => gd (notSet iter) ((P.e C iter).bind fun a => some (iA a))
section
variable {P : Cp} {G : Gc} {C : Cc} {tk : Tks} {cl : Cl} {W : WX} {k : Nat} {X : Cx}
theorem it_name {x : Str} {b : Nat} (hb : 9 ≤ b) (h : GvOk G X.mg (nmOf x) (.bl b)) : x = Str.ofString (itS b) ∧ X.mg (Str.ofString (itS b)) = none := by
  rcases h with ⟨e, _⟩ | ⟨_, e, _⟩ | ⟨_, h1, h2⟩
  · omega
  · omega
  · rw [mk_nm] at h1
    exact ⟨h1, h2⟩
theorem cIc_ok (hP : Snd P) (o : Okx G C tk cl W k X) {tg : Expr} {x : Str} {args : List Expr} {m : MI} {p pos : Pos} (h : cIc P C tg x args = some m) : PI X tg (.Call (.Name x p) args [] pos) (RdI G tk cl W m) := by
  unfold cIc at h
  split at h
  · rename_i e
    obtain ⟨h1, h2⟩ := gl_ok o e
    obtain ⟨rfl, h3⟩ := it_name (by omega) h2
    simp only [gd_iff, Option.bind_eq_some_iff, Option.some.injEq] at h
    obtain ⟨hl, a, ha, rfl⟩ := h
    have st := cA_star ha
    have pa := cA_ok hP o ha
    have ln := fun env S xs S' q => cA_len ha cl env S xs S' q
    match args, hl with
    | [e1], _ =>
      have st' : isStar e1 = false := by simpa [noStar] using st
      exact ri_range1 h1 h3 pa (star_cons st') ln
    | [e1, e2], _ =>
      have st' : isStar e1 = false ∧ isStar e2 = false := by simpa [noStar] using st
      exact ri_range2 h1 h3 pa (by rw [star_cons st'.1, star_cons st'.2]; rfl) (star_cons st'.2) ln
    | [e1, e2, e3], _ =>
      have st' : isStar e1 = false ∧ isStar e2 = false ∧ isStar e3 = false := by simpa [noStar] using st
      exact ri_range3 h1 h3 pa (star_cons st'.1) (star_plain (by simp [noStar, st'.2.1, st'.2.2])) ln
    | [], hl => simp at hl
    | _ :: _ :: _ :: _ :: _, hl => simp at hl
  · rename_i e
    obtain ⟨h1, h2⟩ := gl_ok o e
    obtain ⟨rfl, h3⟩ := it_name (by omega) h2
    simp only [gd_iff, Option.bind_eq_some_iff, Option.some.injEq, Bool.and_eq_true] at h
    obtain ⟨⟨ht, hl⟩, a, ha, rfl⟩ := h
    have st := cA_star ha
    have pa := cA_ok hP o ha
    have ln := fun env S xs S' q => cA_len ha cl env S xs S' q
    cases tg <;> try (cases ht; done)
    match args, hl with
    | [e1], _ =>
      have st' : isStar e1 = false := by simpa [noStar] using st
      exact ri_enum o.K h1 h3 pa (star_cons st') ln
    | [], hl => simp at hl
    | _ :: _ :: _, hl => simp at hl
  · rename_i e
    obtain ⟨h1, h2⟩ := gl_ok o e
    obtain ⟨rfl, h3⟩ := it_name (by omega) h2
    simp only [gd_iff, Option.bind_eq_some_iff, Option.some.injEq, Bool.and_eq_true] at h
    obtain ⟨⟨ht, hl⟩, a, ha, rfl⟩ := h
    have st := cA_star ha
    have pa := cA_ok hP o ha
    have ln := fun env S xs S' q => cA_len ha cl env S xs S' q
    cases tg <;> try (cases ht; done)
    match args, hl with
    | [e1, e2], _ =>
      have st' : isStar e1 = false ∧ isStar e2 = false := by simpa [noStar] using st
      exact ri_zip o.K h1 h3 pa (star_cons st'.1) (star_plain (by simp [noStar, st'.2])) ln
    | [], hl => simp at hl
    | [_], hl => simp at hl
    | _ :: _ :: _ :: _, hl => simp at hl
  · cases h
theorem cI_ok (hP : Snd P) (o : Okx G C tk cl W k X) {tg iter : Expr} {m : MI} (h : cI P C tg iter = some m) : PI X tg iter (RdI G tk cl W m) ∧ notSet iter = true := by
  unfold cI at h
  split at h
  · split at h
    · rename_i e
      cases h
      exact ⟨cIc_ok hP o e, rfl⟩
    · simp only [Option.bind_eq_some_iff, Option.some.injEq] at h
      obtain ⟨a, ha, rfl⟩ := h
      exact ⟨ri_any o.K ((hP o).1 _ a ha), rfl⟩
  · simp only [gd_iff, Option.bind_eq_some_iff, Option.some.injEq] at h
    obtain ⟨h1, a, ha, rfl⟩ := h
    exact ⟨ri_any o.K ((hP o).1 _ a ha), h1⟩
end

/-! ### comprehensions -/
def relN (l sk : List (Nm × NameKind)) : List (Nm × NameKind) := l.map fun p => match p.2, lookN sk p.1 with
  | .free, some .cell => (p.1, .cell)
  | _, _ => p
theorem rel_nrm {scope sc : Scope} (hk : sc.kind = .function) : nrm (relS scope sc).names = relN (nrm scope.names) (nrm sc.names) := by
  unfold relS relN nrm
  simp only [List.map_map]
  apply List.map_congr_left
  rintro ⟨n, kd⟩ _
  simp only [Function.comp]
  have e := look_nrm sc.names n
  unfold nrm at e
  rw [e, hk]
  cases kd <;> first
    | rfl
    | (cases q : sc.names.lookup n with
       | none => rfl
       | some kk => cases kk <;> rfl)
def ownOf (C : Cc) (l : List (Str × NameKind)) : List (Str × Nat) := l.filterMap fun p => match p.2 with
  | .local => (idxN C.N (nmOf p.1)).map fun i => (p.1, i)
  | .cell => (idxN C.N (nmOf p.1)).map fun i => (p.1, i)
  | _ => none
def fnK (s : Scope) : Bool := match s.kind with
  | .function => true
  | _ => false
def sameK : NameKind → Option NameKind → Bool
  | .local, some .local => true
  | .cell, some .cell => true
  | .free, some .free => true
  | .globalExplicit, some .globalExplicit => true
  | .globalImplicit, some .globalImplicit => true
  | _, _ => false
theorem sameK_ok {a : NameKind} {b : Option NameKind} (h : sameK a b = true) : b = some a := by
  cases a <;> cases b <;> first | (cases h; done) | (rename_i b; cases b <;> first | rfl | cases h)
def freeK : NameKind → Option NameKind → Bool
  | .free, some .cell => true
  | .free, some .free => true
  | .free, _ => false
  | _, _ => true
def blkB (C : Cc) (s : Scope) : Bool := fnK s && (nrm s.names).all fun p => sameK p.2 (lookN (nrm s.names) p.1) && freeK p.2 (lookN C.sk p.1)
def celK (s : Scope) (x : Nm) : Bool := match lookN (nrm s.names) x with
  | some .cell => true
  | _ => false
def blkC (C : Cc) (s : Scope) : Cc := { C with sk := relN (nrm s.names) C.sk, fnc := celK s, act := false, lam := C.lam && C.calm, ise := false }
theorem fnK_ok {s : Scope} (h : fnK s = true) : s.kind = .function := by
  unfold fnK at h
  split at h
  · rename_i e; exact e
  · cases h
section
variable {P : Cp} {G : Gc} {C : Cc} {tk : Tks} {cl : Cl} {W : WX} {k : Nat} {X : Cx}
theorem nrm_all {l : List (Str × NameKind)} {f : Nm × NameKind → Bool} (h : (nrm l).all f = true) : ∀ y ∈ l, f (nmOf y.1, y.2) = true := fun y hy => by
  rw [List.all_eq_true] at h
  exact h _ (List.mem_map.mpr ⟨y, hy, rfl⟩)
theorem blk_ok (o : Okx G C tk cl W k X) {s : Scope} (h : blkB C s = true) : BlkOk X.N X.env.scope s (ownOf C s.names) := by
  simp only [blkB, Bool.and_eq_true] at h
  obtain ⟨h1, h2⟩ := h
  have h3 : ∀ y ∈ s.names, sameK y.2 (s.names.lookup y.1) = true ∧ freeK y.2 (X.env.scope.names.lookup y.1) = true := fun y hy => by
    have z := nrm_all h2 y hy
    simp only [Bool.and_eq_true] at z
    rw [look_nrm, o.lk] at z
    exact z
  refine ⟨fnK_ok h1, fun y hy => sameK_ok (h3 y hy).1, fun p hp => ?_, fun y hy e => ?_, fun y hy e => ?_⟩
  · unfold ownOf at hp
    obtain ⟨q, hq, e⟩ := List.mem_filterMap.mp hp
    have fin : ((idxN C.N (nmOf q.1)).map fun i => (q.1, i)) = some p → X.N[p.2]? = some p.1 := fun e => by
      cases z : idxN C.N (nmOf q.1) with
      | none => rw [z] at e; cases e
      | some i =>
        rw [z] at e
        cases e
        exact idx_N o.N z
    split at e
    · exact fin e
    · exact fin e
    · cases e
  · have z := (h3 y hy).2
    rw [e] at z
    unfold freeK at z
    split at z <;> first | (rename_i q; first | exact .inl q | exact .inr q) | (cases z; done) | (rename_i q _ _; exact absurd rfl q)
  · have fin : idxN C.N (nmOf y.1) = none → y.1 ∉ X.N := fun q hm => by
      rw [o.N] at hm
      obtain ⟨l, hl, e⟩ := List.mem_map.mp hm
      rw [← e, nm_mk] at q
      exact idx_none q hl
    cases z : idxN C.N (nmOf y.1) with
    | none => exact .inr (fin z)
    | some i =>
      refine .inl (List.mem_map.mpr ⟨(y.1, i), List.mem_filterMap.mpr ⟨y, hy, ?_⟩, rfl⟩)
      rcases e with e | e <;> rw [e, z] <;> rfl
theorem takes_w0 {X : Cx} : L2N.Takes X W0 := fun u s' ⟨a, B, sI, pins, σ, H, cls, d, e, I, nb, up, sky, na, os, ag, w⟩ => w.elim
theorem blk_okx (o : Okx G C tk cl W k X) (hc : C.calm = true) {s : Scope} (hs : fnK s = true) (t : Shared) (H : Hp) (A : Addr) (l : List (Str × Addr)) (fp : List Addr) : Okx G (blkC C s) tk cl W0 k (X.blk t H s (compEnvC s l A X.env) fp) where
  K := o.K
  N := o.N
  nd := o.nd
  knd := fnK_ok hs
  sk := by
    show nrm (relS s X.env.scope).names = _
    rw [rel_nrm o.knd, o.sk]
    rfl
  gl := o.gl
  fns := o.fns
  room := o.room
  un := o.un
  calm := o.calm
  hot := fun z => by have z' : C.calm = false := z; rw [hc] at z'; cases z'
  tak := takes_w0
  fn := fun x z => by
    have z : celK s (nmOf x) = true := z
    unfold celK at z
    rw [look_nrm] at z
    show (s.names.lookup x == some .cell) = true
    split at z
    · rename_i e; rw [e]; rfl
    · cases z
  ise := fun z => by cases z
  sub := o.sub
  act := fun z => by cases z
  lam := fun z => by
    have z' : (C.lam && C.calm) = true := z
    simp only [Bool.and_eq_true] at z'
    exact ⟨(o.lam z'.1).ex⟩
theorem blkH_okx (o : Okx G C tk cl W k X) (hc : C.calm = false) {s : Scope} (hs : fnK s = true) (t : Shared) (H : Hp) (A : Addr) (l : List (Str × Addr)) (fp : List Addr) : Okx G (blkC C s) tk cl W0 k (blkH X t H s (compEnvC s l A X.env) fp) where
  K := o.K
  N := o.N
  nd := o.nd
  knd := fnK_ok hs
  sk := by
    show nrm (relS s X.env.scope).names = _
    rw [rel_nrm o.knd, o.sk]
    rfl
  gl := o.gl
  fns := o.fns
  room := o.room
  un := o.un
  calm := o.calm
  hot := o.hot
  tak := takes_w0
  fn := fun x z => by
    have z : celK s (nmOf x) = true := z
    unfold celK at z
    rw [look_nrm] at z
    show (s.names.lookup x == some .cell) = true
    split at z
    · rename_i e; rw [e]; rfl
    · cases z
  ise := fun z => by cases z
  sub := o.sub
  act := fun z => by cases z
  lam := fun z => by
    have z' : (C.lam && C.calm) = true := z
    rw [hc, Bool.and_false] at z'
    cases z'
end
def memN (l : List Nat) (i : Nat) : Bool := l.any fun j => Nat.beq j i
theorem memN_ok {l : List Nat} {i : Nat} (h : memN l i = true) : i ∈ l := by
  unfold memN at h
  obtain ⟨j, hj, e⟩ := List.any_eq_true.mp h
  rw [← Nat.eq_of_beq_eq_true e]; exact hj
def cTs (P : Cp) (C : Cc) : List Expr → Option MB
  | [] => some tYe
  | [c] => P.b C c
  | _ => none
def cLc (P : Cp) (C : Cc) (elt tg iter : Expr) (ifs : List Expr) (s : Scope) : Option ME := gd (blkB C s) ((cG (blkC C s) 8 tg).bind fun g => gd (g.2.all (memN ((ownOf C s.names).map (·.2)))) ((P.e (blkC C s) elt).bind fun me => (cTs P (blkC C s) ifs).bind fun mt =>
  match C.calm with
  | true => (cI P C tg iter).bind fun mi => some (mLc ((ownOf C s.names).map (·.2)) g.1 mt me mi)
  | false => gd (notSet iter) ((P.e C iter).bind fun m => some (mLc ((ownOf C s.names).map (·.2)) g.1 mt me (iAL m)))))
section
variable {P : Cp} {G : Gc} {C : Cc} {tk : Tks} {cl : Cl} {W : WX} {k : Nat} {X : Cx}
theorem cTs_ok (hP : Snd P) (o : Okx G C tk cl W k X) : ∀ {ifs : List Expr} {mt : MB}, cTs P C ifs = some mt → PTs X ifs (RdB G tk cl W mt)
  | [], mt, h => by cases h; exact rts_nil
  | [c], mt, h => pts_one ((hP o).2 c mt h)
  | _ :: _ :: _, mt, h => by cases h
theorem cLc_ok (hP : Snd P) (o : Okx G C tk cl W k X) {elt tg iter : Expr} {ifs : List Expr} {s : Scope} {m : ME} {pos : Pos} (h : cLc P C elt tg iter ifs s = some m) : PE X (.ListComp elt [⟨tg, iter, ifs, 0⟩] s pos) (RdE G tk cl W m) := by
  simp only [cLc, gd_iff, Option.bind_eq_some_iff] at h
  obtain ⟨hb, ⟨g, is⟩, hg, his, me, he, mt, ht, h⟩ := h
  have hf : fnK s = true := by simp only [blkB, Bool.and_eq_true] at hb; exact hb.1
  have his' : ∀ i ∈ is, i ∈ (ownOf C s.names).map (·.2) := fun i hi => memN_ok (List.all_eq_true.mp his i hi)
  cases hc : C.calm with
  | true =>
    rw [hc] at h
    simp only [Option.bind_eq_some_iff, Option.some.injEq] at h
    obtain ⟨mi, hi, rfl⟩ := h
    obtain ⟨p1, p2⟩ := cI_ok hP o hi
    have gg := (cG_ok (blk_okx o hc hf X.s_0 (fun _ => none) 0 [] []) 8 tg g is hg).2
    exact re_lc (o.calm hc) o.nd p1 (blk_ok o hb) gg his' (fun t H A l fp => (cG_ok (blk_okx o hc hf t H A l fp) 8 tg g is hg).1) (fun t H A l fp => cTs_ok hP (blk_okx o hc hf t H A l fp) ht) (fun t H A l fp => (hP (blk_okx o hc hf t H A l fp)).1 elt me he) (folded_no p2)
  | false =>
    rw [hc] at h
    simp only [gd_iff, Option.bind_eq_some_iff, Option.some.injEq] at h
    obtain ⟨p2, mm, hi, rfl⟩ := h
    have p1 : L2H.PIH X tg iter (RdI G tk cl W (iAL mm)) := ri_listH o.K ((hP o).1 iter mm hi)
    have gg := (cG_ok (blkH_okx o hc hf X.s_0 (fun _ => none) 0 [] []) 8 tg g is hg).2
    exact re_lcH (o.hot hc) o.nd p1 (blk_ok o hb) gg his' (fun t H A l fp => (cG_ok (blkH_okx o hc hf t H A l fp) 8 tg g is hg).1) (fun t H A l fp => cTs_ok hP (blkH_okx o hc hf t H A l fp) ht) (fun t H A l fp => (hP (blkH_okx o hc hf t H A l fp)).1 elt me he) (folded_no p2)
end
end Mi

set_option Elab.async false
set_option linter.all false
set_option maxRecDepth 100000
set_option maxHeartbeats 2000000
namespace Mi
open PySem PySem.Spec PyProof.Rows L2

/-! ### calls -/
def tyO : Nat → Option OL
  | 0 => some bInt
  | 3 => some bTup
  | 4 => some bList
  | _ => none
def noPar : Arguments → Bool
  | ⟨[], [], none, [], [], none, []⟩ => true
  | _ => false
def lamK (C : Cc) (p : Nm × NameKind) : Bool := match p.2 with
  | .local => false
  | .cell => false
  | .free => freeK .free (lookN C.sk p.1)
  | _ => true
def lamB (C : Cc) (s : Scope) : Bool := fnK s && (!s.isCoroutine && !s.isGenerator) && (nrm s.names).all (lamK C)
def lamC (C : Cc) (s : Scope) : Cc := { C with sk := nrm s.names, fnc := fun _ => false, act := false, lam := false, ise := false }
def joinN : Nm := [106, 111, 105, 110]
def appN : Nm := [97, 112, 112, 101, 110, 100]
theorem join_nm : nmOf ("join" : Str) = joinN := by decide +kernel
theorem app_nm : nmOf ("append" : Str) = appN := by decide +kernel
def cFn (P : Cp) (C : Cc) (j : Nat) (args : List Expr) : Option ME := match args with
  | [] => gd (C.calm && C.isF j) (some (mCall j aN))
  | [.Lambda ps body s lpos] => gd (C.lam && C.calm && C.isL j && noPar ps && lamB C s) ((P.e (lamC C s) body).bind fun m => some (mLam j m))
  | e :: es => gd (C.calm && C.isF j) ((cA P C (e :: es)).bind fun a => some (mCall j a))
def cIsi (P : Cp) (C : Cc) (args : List Expr) : Option ME := match args with
  | [e, .Name t tp] => match glV C (nmOf t) with
    | some (.ty T) => gd (!isStar e) ((P.e C e).bind fun m => some (mIsi T m))
    | some (.exc c) => match e with
      | .Name n np => gd C.ise ((slotI C (nmOf n)).bind fun i => some (mIsE C.sub i c))
      | _ => none
    | _ => none
  | _ => none
def cBl (P : Cp) (C : Cc) (b : Nat) (args : List Expr) : Option ME := match Nat.beq b 8 with
  | true => cIsi P C args
  | false => match args with
    | [] => none
    | e :: es => gd (Nat.ble b 7 && (C.calm || Nat.ble b 2)) ((cA P C (e :: es)).bind fun a => some (mL (bltO b) a))
def cMt (P : Cp) (C : Cc) (o : Expr) (name : Str) (apos pos : Pos) (args : List Expr) : Option ME := match args with
  | [] => none
  | e :: es => gd (notCall0 o && Nat.beq apos.endLine pos.line && Nat.ble es.length 20) ((P.e C o).bind fun mo => (cA P C (e :: es)).bind fun a => match eqN (nmOf name) joinN with
    | true => some (mMt 0 mJoin mo a)
    | false => gd (eqN (nmOf name) appN) (some (mMt 1 mApp mo a)))
def cCall (P : Cp) (C : Cc) (f : Expr) (args : List Expr) (pos : Pos) : Option ME := match f with
  | .Name x p => match slotI C (nmOf x) with
    | some i => match args with
      | [] => gd (C.act && Nat.beq i 0) (some (mAct 0))
      | e :: es => gd C.calm ((cA P C (e :: es)).bind fun a => some (mCallV C.isF i a))
    | none => match glV C (nmOf x) with
      | some (.fn j) => cFn P C j args
      | some (.bl b) => cBl P C b args
      | some (.ty t) => match args with
        | [] => none
        | e :: es => (tyO t).bind fun g => (cA P C (e :: es)).bind fun a => some (mL g a)
      | _ => none
  | .Attribute o name apos => cMt P C o name apos pos args
  | _ => none
section
variable {P : Cp} {G : Gc} {C : Cc} {tk : Tks} {cl : Cl} {W : WX} {k : Nat} {X : Cx}
theorem lam_okx {k0 : Nat} {cb : Call} (o : Okx G C tk cl W k X) {s : Scope} (h : lamB C s = true) (fb : ∀ j, C.isF j = true → FnAt G X.prog X.w X.mg X.base k0 cb j) (hc : C.calm = true) {A : Around} {outer : List PySem.Env} {t : Shared} {H : Hp} {E : XK} {f c' : Addr} (hr : Room k0 (A.deeper (LamX.lamEnv X s t.heap.objs.size f c'))) :
    Okx G (lamC C s) ⟨none, none⟩ (bareC cb) (fun c d _ H => E c d H) k0 (lamN X A outer t H E s f c') where
  K := o.K
  N := o.N
  nd := o.nd
  knd := by simp only [lamB, Bool.and_eq_true] at h; exact fnK_ok h.1.1
  sk := rfl
  gl := o.gl
  fns := fb
  room := fun _ => hr
  un := hr.units
  calm := fun _ => rfl
  hot := fun z => by have z' : C.calm = false := z; rw [hc] at z'; cases z'
  tak := L2N.takes_of rfl rfl rfl rfl
  fn := fun x z => by cases z
  ise := fun z => by cases z
  sub := o.sub
  act := fun z => by cases z
  lam := fun z => by cases z
theorem lam_s (o : Okx G C tk cl W k X) {s : Scope} (h : lamB C s = true) : LamX.LamS X.env.scope s := by
  simp only [lamB, Bool.and_eq_true, Bool.not_eq_true'] at h
  obtain ⟨⟨h1, h2, h3⟩, h4⟩ := h
  have h5 := nrm_all h4
  refine ⟨fnK_ok h1, h2, h3, fun y hy => ?_, fun y hy e => ?_⟩
  · have z := h5 y hy
    simp only [lamK] at z
    constructor <;> intro e <;> rw [e] at z <;> cases z
  · have z := h5 y hy
    simp only [lamK, e] at z
    rw [o.lk] at z
    unfold freeK at z
    split at z <;> first | (rename_i q; first | exact .inl q | exact .inr q) | (cases z; done) | (rename_i q _ _; exact absurd rfl q)
theorem cFn_ok (hP : Snd P) (o : Okx G C tk cl W k X) {x : Str} {j : Nat} (hv : glV C (nmOf x) = some (.fn j)) {args : List Expr} {m : ME} {p pos : Pos} (h : cFn P C j args = some m) : PE X (.Call (.Name x p) args [] pos) (RdE G tk cl W m) := by
  obtain ⟨h1, h2, h3⟩ := gl_ok o hv
  rw [mk_nm] at h2 h3
  unfold cFn at h
  split at h
  · simp only [gd_iff, Bool.and_eq_true, Option.some.injEq] at h
    obtain ⟨⟨hc, hf⟩, rfl⟩ := h
    exact re_call0 o.K (o.fns j hf) (o.room hc) h1 h2 o.tak h3
  · rename_i ps body s lpos
    simp only [gd_iff, Bool.and_eq_true, Option.bind_eq_some_iff, Option.some.injEq] at h
    obtain ⟨⟨⟨⟨⟨hl, hc⟩, hj⟩, hp⟩, hs⟩, me, he, rfl⟩ := h
    rcases (o.lam hl).ex with e0 | ⟨k0, cb, c, Pt, rfl, TB, e1, e2, e3, e4, e5⟩
    · refine ⟨fun pins s σ H Q I ⟨ι, env, S, r, s', q⟩ => ?_⟩
      unfold mLam at q
      rw [e0] at q
      exact q.elim
    have hp' : ps = ⟨[], [], none, [], [], none, []⟩ := by
      unfold noPar at hp
      split at hp
      · rfl
      · cases hp
    subst hp'
    exact re_lam o.K h1 h2 (e4 j hj) TB e1 e2 e3 (o.room hc) (lam_s o hs) rfl (fun _ _ _ _ _ => rfl) (fun A outer t H E f c' hr => (hP (lam_okx o hs e5 hc hr)).1 body me he) h3
  · rename_i e es _
    simp only [gd_iff, Bool.and_eq_true, Option.bind_eq_some_iff, Option.some.injEq] at h
    obtain ⟨⟨hc, hf⟩, a, ha, rfl⟩ := h
    have st := cA_star ha
    have st' : (!isStar e) = true ∧ noStar es = true := by simpa [noStar] using st
    exact re_call o.K (o.fns j hf) (o.room hc) h1 h2 o.tak (cA_ok hP o ha) h3 (star_cons (by simpa using st'.1)) (star_plain st'.2)
theorem cIsi_ok (hP : Snd P) (o : Okx G C tk cl W k X) {x : Str} (hg : Gl X x) (hm : X.mg x = none) (hb : bootBuiltins x = some (.builtin "isinstance")) (hn : x ≠ "__name__") (hd : (x == ("__debug__" : Str)) = false) {args : List Expr} {m : ME} {p pos : Pos} (h : cIsi P C args = some m) : PE X (.Call (.Name x p) args [] pos) (RdE G tk cl W m) := by
  unfold cIsi at h
  split at h
  · rename_i e t tp
    split at h
    · rename_i T hv
      obtain ⟨h1, h2, h3, h4, h5, h6⟩ := gl_ok o hv
      rw [mk_nm] at h3 h4 h5 h6
      simp only [gd_iff, Option.bind_eq_some_iff, Option.some.injEq, Bool.not_eq_true'] at h
      obtain ⟨hs, me, he, rfl⟩ := h
      exact re_isi h2 o.K hg hm hb h1 h3 h4 ((hP o).1 e me he) hn hd h5 h6 (star_cons hs)
    · rename_i c hv
      obtain ⟨h1, h2, h3, h4, h5⟩ := gl_ok o hv
      rw [mk_nm] at h2 h3
      split at h
      · rename_i n np
        simp only [gd_iff, Option.bind_eq_some_iff, Option.some.injEq] at h
        obtain ⟨hi, i, hs, rfl⟩ := h
        obtain ⟨q1, q2, q3, q4⟩ := slot_ok o hs
        exact re_isE o.K q1 q2 q3 q4 hg hm hb hn hd h1 h2 h3 (fun d b e => (o.sub d c b e).1) (fun a d p b e1 e2 => o.ise hi a d p b c e1 e2)
      · cases h
    · cases h
  · cases h
theorem blt_ok (o : Okx G C tk cl W k X) {b : Nat} (hb : b ≤ 7) (hc : C.calm = true ∨ b ≤ 2) : CallR X (.builtin (bltS b)) (rOL G (bltO b)) := by
  have hcal : 2 < b → X.calm = true := fun h => by
    rcases hc with z | z
    · exact o.calm z
    · omega
  match b, hb with
  | 0, _ => exact ok_len o.K
  | 1, _ => exact ok_abs
  | 2, _ => exact ok_gcd
  | 3, _ => exact ok_max (hcal (by omega)) o.K
  | 4, _ => exact ok_min (hcal (by omega)) o.K
  | 5, _ => exact ok_sum (hcal (by omega)) o.K
  | 6, _ => exact ok_all (hcal (by omega)) o.K
  | 7, _ => exact ok_any (hcal (by omega)) o.K
theorem cBl_ok (hP : Snd P) (o : Okx G C tk cl W k X) {x : Str} {b : Nat} (hv : glV C (nmOf x) = some (.bl b)) {args : List Expr} {m : ME} {p pos : Pos} (h : cBl P C b args = some m) : PE X (.Call (.Name x p) args [] pos) (RdE G tk cl W m) := by
  obtain ⟨h1, h2⟩ := gl_ok o hv
  unfold cBl at h
  split at h
  · rename_i hb
    have hb : b = 8 := Nat.eq_of_beq_eq_true hb
    subst hb
    rcases h2 with ⟨e, _⟩ | ⟨_, _, h3, h4, h5, h6⟩ | ⟨e, _⟩
    · cases e
    · rw [mk_nm] at h3 h4 h5 h6
      exact cIsi_ok hP o h1 h3 h4 h5 h6 h
    · omega
  · split at h
    · cases h
    · rename_i e es
      simp only [gd_iff, Bool.and_eq_true, Bool.or_eq_true, Option.bind_eq_some_iff, Option.some.injEq] at h
      obtain ⟨⟨hb, hc⟩, a, ha, rfl⟩ := h
      have hb : b ≤ 7 := Nat.le_of_ble_eq_true hb
      have hc : C.calm = true ∨ b ≤ 2 := hc.imp id fun z => Nat.le_of_ble_eq_true z
      have st := cA_star ha
      have st' : (!isStar e) = true ∧ noStar es = true := by simpa [noStar] using st
      have R := blt_ok o hb hc
      rcases h2 with ⟨e1, h3, h4⟩ | ⟨_, _, h3, h4, h5, h6⟩ | ⟨e1, _⟩
      · subst e1
        rw [mk_nm] at h3 h4
        exact re_bfun R h1 h3 (cA_ok hP o ha) h4 (star_cons (by simpa using st'.1)) (star_plain st'.2)
      · rw [mk_nm] at h3 h4 h5 h6
        exact re_blt R h1 h3 h4 (cA_ok hP o ha) h5 h6 (star_cons (by simpa using st'.1)) (star_plain st'.2)
      · omega
theorem tyO_ok (o : Okx G C tk cl W k X) {t : Nat} {g : OL} (h : tyO t = some g) : CallR X (.type (tyS t)) (rOL G g) := by
  unfold tyO at h
  split at h <;> cases h
  · exact ok_int
  · exact ok_tup o.K
  · exact ok_list o.K
theorem cMt_ok (hP : Snd P) (o : Okx G C tk cl W k X) {ob : Expr} {name : Str} {apos pos : Pos} {args : List Expr} {m : ME} (h : cMt P C ob name apos pos args = some m) : PE X (.Call (.Attribute ob name apos) args [] pos) (RdE G tk cl W m) := by
  unfold cMt at h
  split at h
  · cases h
  · rename_i e es
    simp only [gd_iff, Bool.and_eq_true, Option.bind_eq_some_iff] at h
    obtain ⟨⟨⟨h1, h2⟩, h3⟩, mo, ho, a, ha, h⟩ := h
    have st := cA_star ha
    have st' : (!isStar e) = true ∧ noStar es = true := by simpa [noStar] using st
    have h3 : es.length ≤ 20 := Nat.le_of_ble_eq_true h3
    have hfew : ((backTo pos (starEach (e :: es) X.env)).all (fun x => !x.1) && (backToKw pos (keywordEach [] X.env)).all (fun x => x.1.isSome) && decide ((e :: es).length + ([] : List Keyword).length + (if ([] : List Keyword).isEmpty then 0 else 1) < 30)) = true := by
      rw [star_all st, Bool.true_and]
      show (true && decide (es.length + 1 + 0 + 0 < 30)) = true
      rw [Bool.true_and]
      exact decide_eq_true (by omega)
    split at h
    · rename_i hn
      cases h
      obtain rfl : name = ("join" : Str) := nm_inj ((eqN_iff.mp hn).trans join_nm.symm)
      exact re_mt (t := 0) o.K PySem.F.plainAttrs_str PySem.F.slot_str_join PySem.F.type_str_join (ok_join o.K) ((hP o).1 ob mo ho) (cA_ok hP o ha) (attr_no h1) hfew (by simpa using h2) (star_cons (by simpa using st'.1)) (star_plain st'.2)
    · rename_i hn
      simp only [gd_iff, Option.some.injEq] at h
      obtain ⟨hn, rfl⟩ := h
      obtain rfl : name = ("append" : Str) := nm_inj ((eqN_iff.mp hn).trans app_nm.symm)
      exact re_mt (t := 1) o.K PySem.F.plainAttrs_list PySem.F.slot_list_append PySem.F.type_list_append ok_app ((hP o).1 ob mo ho) (cA_ok hP o ha) (attr_no h1) hfew (by simpa using h2) (star_cons (by simpa using st'.1)) (star_plain st'.2)
theorem cCall_ok (hP : Snd P) (o : Okx G C tk cl W k X) {f : Expr} {args : List Expr} {m : ME} {pos : Pos} (h : cCall P C f args pos = some m) : PE X (.Call f args [] pos) (RdE G tk cl W m) := by
  unfold cCall at h
  split at h
  · rename_i x p
    split at h
    · rename_i i hs
      obtain ⟨q1, q2, q3, q4⟩ := slot_ok o hs
      split at h
      · simp only [gd_iff, Bool.and_eq_true, Option.some.injEq] at h
        obtain ⟨⟨ha, hi⟩, rfl⟩ := h
        obtain rfl : i = 0 := Nat.eq_of_beq_eq_true hi
        exact o.act ha X.pn X.xe W x p pos o.tak q1
      · rename_i e es
        simp only [gd_iff, Option.bind_eq_some_iff, Option.some.injEq] at h
        obtain ⟨hc, a, ha, rfl⟩ := h
        have st := cA_star ha
        have st' : (!isStar e) = true ∧ noStar es = true := by simpa [noStar] using st
        exact re_callV o.K o.fns (o.room hc) q1 q2 o.tak (cA_ok hP o ha) q3 q4 (star_cons (by simpa using st'.1)) (star_plain st'.2)
    · split at h
      · rename_i j hv
        exact cFn_ok hP o hv h
      · rename_i b hv
        exact cBl_ok hP o hv h
      · rename_i t hv
        split at h
        · cases h
        · rename_i e es
          simp only [Option.bind_eq_some_iff, Option.some.injEq] at h
          obtain ⟨g, hg, a, ha, rfl⟩ := h
          obtain ⟨h1, h2, h3, h4, h5, h6⟩ := gl_ok o hv
          rw [mk_nm] at h3 h4 h5 h6
          have st := cA_star ha
          have st' : (!isStar e) = true ∧ noStar es = true := by simpa [noStar] using st
          exact re_bty (tyO_ok o hg) h1 h3 h4 (cA_ok hP o ha) h5 h6 (star_cons (by simpa using st'.1)) (star_plain st'.2)
      · cases h
  · exact cMt_ok hP o h
  · cases h
end

/-! ### expressions -/
def cConst : Const → Option ME
  | .none => some (mC .non)
  | .bool b => some (mC (.bl b))
  | .int i => some (mC (.int i))
  | .str x => some (mC (.str (nmOf x)))
  | _ => none
def cCmp (P : Cp) (C : Cc) (a : Expr) (ops : List CmpOp) (bs : List Expr) : Option ME := match ops, bs with
  | [op], [b] => gd (notSet b) ((opC op).bind fun g => (P.e C a).bind fun x => (P.e C b).bind fun y => some (m2 g x y))
  | [o1, o2], [b, c] => gd (notSet c) ((opC o1).bind fun g => (opC o2).bind fun h => (P.e C a).bind fun x => (P.e C b).bind fun y => (P.e C c).bind fun z => some (mCh g h x y z))
  | _, _ => none
def cOpt (P : Cp) (C : Cc) : Option Expr → Option (Option ME)
  | none => some none
  | some e => (P.e C e).bind fun m => some (some m)
def cSub (P : Cp) (C : Cc) (a i : Expr) : Option ME := match i with
  | .Slice none none (some (.UnaryOp .USub (.Constant (.int 1) _ _) _)) _ => (P.e C a).bind fun x => some (m1 revP x)
  | .Slice lo hi none _ => (P.e C a).bind fun x => (cOpt P C lo).bind fun l => (cOpt P C hi).bind fun h => some (mSl x l h)
  | i => gd (notSlice i) ((P.e C a).bind fun x => (P.e C i).bind fun y => some (m2 oIx x y))
def stepE (P : Cp) (C : Cc) : Expr → Option ME
  | .Constant c _ _ => cConst c
  | .Name x _ => cName C x
  | .BinOp a op b _ => (opB op).bind fun g => (P.e C a).bind fun x => (P.e C b).bind fun y => some (m2 g x y)
  | .UnaryOp .USub a _ => (P.e C a).bind fun x => some (m1 opNeg x)
  | .UnaryOp .Not a _ => (P.e C a).bind fun x => some (mNo x)
  | .BoolOp .And es _ => cAndV P C es
  | .BoolOp .Or es _ => cOrV P C es
  | .Compare a ops bs _ => cCmp P C a ops bs
  | .IfExp c a b _ => (P.b C c).bind fun t => (P.e C a).bind fun x => (P.e C b).bind fun y => some (mIf t x y)
  | .Subscript a i _ => cSub P C a i
  | .Tuple es _ _ => gd (Nat.ble es.length 1000) ((cA P C es).bind fun a => some (mTup a))
  | .List es _ => gd (Nat.ble es.length 1000) ((cA P C es).bind fun a => some (mLst a))
  | .ListComp elt [⟨tg, iter, ifs, 0⟩] s _ => cLc P C elt tg iter ifs s
  | .Call f args [] pos => cCall P C f args pos
  | _ => none
def stepB (P : Cp) (C : Cc) : Expr → Option MB
  | .UnaryOp .Not a _ => (P.b C a).bind fun x => some (tNo x)
  | .BoolOp .And es _ => cAndT P C es
  | .BoolOp .Or es _ => cOrT P C es
  | .Compare a ops bs _ => (cCmp P C a ops bs).bind fun m => some (tBl m)
  | e => gd (truForm e) ((P.e C e).bind fun m => some (tTru m))
section
variable {P : Cp} {G : Gc} {C : Cc} {tk : Tks} {cl : Cl} {W : WX} {k : Nat} {X : Cx}
theorem marks_last {o1 o2 : CmpOp} {b c : Expr} (h : notSet c = true) : lastMarks [o1, o2] [b, c] = false := marks_no h
theorem cConst_ok {c : Const} {m : ME} {kk : Nat} {pos : Pos} (h : cConst c = some m) : PE X (.Constant c kk pos) (RdE G tk cl W m) := by
  unfold cConst at h
  split at h <;> cases h
  · exact re_c pe_non fun _ _ _ => rep_non.mpr rfl
  · exact re_c pe_bl fun _ _ _ => rep_bl.mpr rfl
  · exact re_c pe_int fun _ _ _ => rep_int.mpr rfl
  · rename_i x
    exact re_c pe_str fun _ _ _ => rep_str.mpr (by show V.str x = V.str (mkS (nmOf x)); rw [mk_nm])
theorem small_len {P : Cp} {C : Cc} {es : List Expr} {a : MA} (hl : Nat.ble es.length 1000 = true) (ha : cA P C es = some a) : ∀ (cl : Cl) (env : Env) (S : Sto) (xs : List PV) (S' : Sto), a cl env S = .ok xs S' → xs.length ≤ sizeLine := fun cl env S xs S' q => by
  rw [cA_len ha cl env S xs S' q, sizeLine_eq]
  have := Nat.le_of_ble_eq_true hl
  omega
theorem cOpt_ok (hP : Snd P) (o : Okx G C tk cl W k X) {e : Option Expr} {m : Option ME} (h : cOpt P C e = some m) : poP X G tk cl W e m := by
  cases e with
  | none => cases h; trivial
  | some e =>
    simp only [cOpt, Option.bind_eq_some_iff, Option.some.injEq] at h
    obtain ⟨x, hx, rfl⟩ := h
    exact (hP o).1 e x hx
theorem stepE_ok (hP : Snd P) (o : Okx G C tk cl W k X) {e : Expr} {m : ME} (h : stepE P C e = some m) : PE X e (RdE G tk cl W m) := by
  unfold stepE at h
  split at h
  · exact cConst_ok h
  · exact cName_ok o h
  · simp only [Option.bind_eq_some_iff, Option.some.injEq] at h
    obtain ⟨g, hg, x, hx, y, hy, rfl⟩ := h
    exact re_bin (opB_ok o.K hg) ((hP o).1 _ x hx) ((hP o).1 _ y hy)
  · simp only [Option.bind_eq_some_iff, Option.some.injEq] at h
    obtain ⟨x, hx, rfl⟩ := h
    exact re_un ok_neg ((hP o).1 _ x hx)
  · simp only [Option.bind_eq_some_iff, Option.some.injEq] at h
    obtain ⟨x, hx, rfl⟩ := h
    exact re_not o.K ((hP o).1 _ x hx)
  · exact cAndV_ok hP o h
  · exact cOrV_ok hP o h
  · unfold cCmp at h
    split at h
    · simp only [gd_iff, Option.bind_eq_some_iff, Option.some.injEq] at h
      obtain ⟨hs, g, hg, x, hx, y, hy, rfl⟩ := h
      exact re_cmp (opC_ok o.K o.un hg) ((hP o).1 _ x hx) ((hP o).1 _ y hy) (marks_no hs)
    · simp only [gd_iff, Option.bind_eq_some_iff, Option.some.injEq] at h
      obtain ⟨hs, g, hg, g', hg', x, hx, y, hy, z, hz, rfl⟩ := h
      exact re_ch (opC_ok o.K o.un hg) (opC_ok o.K o.un hg') ((hP o).1 _ x hx) ((hP o).1 _ y hy) ((hP o).1 _ z hz) (marks_last hs)
    · cases h
  · simp only [Option.bind_eq_some_iff, Option.some.injEq] at h
    obtain ⟨t, ht, x, hx, y, hy, rfl⟩ := h
    exact re_if ((hP o).2 _ t ht) ((hP o).1 _ x hx) ((hP o).1 _ y hy)
  · unfold cSub at h
    split at h
    · simp only [Option.bind_eq_some_iff, Option.some.injEq] at h
      obtain ⟨x, hx, rfl⟩ := h
      exact re_rev o.K ((hP o).1 _ x hx)
    · simp only [Option.bind_eq_some_iff, Option.some.injEq] at h
      obtain ⟨x, hx, l, hl, u, hu, rfl⟩ := h
      exact re_sl o.K ((hP o).1 _ x hx) (cOpt_ok hP o hl) (cOpt_ok hP o hu)
    · simp only [gd_iff, Option.bind_eq_some_iff, Option.some.injEq] at h
      obtain ⟨hs, x, hx, y, hy, rfl⟩ := h
      exact re_ix (ok_ix o.K) ((hP o).1 _ x hx) ((hP o).1 _ y hy) (ix_plain hs)
  · simp only [gd_iff, Option.bind_eq_some_iff, Option.some.injEq] at h
    obtain ⟨hl, a, ha, rfl⟩ := h
    exact re_tup (cA_ok hP o ha) fun env S xs S' q => small_len hl ha cl env S xs S' q
  · simp only [gd_iff, Option.bind_eq_some_iff, Option.some.injEq] at h
    obtain ⟨hl, a, ha, rfl⟩ := h
    exact re_lst (cA_ok hP o ha) fun env S xs S' q => small_len hl ha cl env S xs S' q
  · exact cLc_ok hP o h
  · exact cCall_ok hP o h
  · cases h
theorem stepB_ok (hP : Snd P) (o : Okx G C tk cl W k X) {e : Expr} {t : MB} (h : stepB P C e = some t) : PT X e (RdB G tk cl W t) := by
  unfold stepB at h
  split at h
  · simp only [Option.bind_eq_some_iff, Option.some.injEq] at h
    obtain ⟨x, hx, rfl⟩ := h
    exact rt_not ((hP o).2 _ x hx)
  · exact (cAndT_ok hP o h).pt
  · exact (cOrT_ok hP o h).pt
  · simp only [Option.bind_eq_some_iff, Option.some.injEq] at h
    obtain ⟨mm, h, rfl⟩ := h
    unfold cCmp at h
    split at h
    · simp only [gd_iff, Option.bind_eq_some_iff, Option.some.injEq] at h
      obtain ⟨hs, g, hg, x, hx, y, hy, rfl⟩ := h
      exact rt_cmp (opC_ok o.K o.un hg) ((hP o).1 _ x hx) ((hP o).1 _ y hy) (marks_no hs)
    · simp only [gd_iff, Option.bind_eq_some_iff, Option.some.injEq] at h
      obtain ⟨hs, g, hg, g', hg', x, hx, y, hy, z, hz, rfl⟩ := h
      exact rt_ch (opC_ok o.K o.un hg) (opC_ok o.K o.un hg') ((hP o).1 _ x hx) ((hP o).1 _ y hy) ((hP o).1 _ z hz) (marks_last hs)
    · cases h
  · simp only [gd_iff, Option.bind_eq_some_iff, Option.some.injEq] at h
    obtain ⟨hf, x, hx, rfl⟩ := h
    exact rt_tru o.K ((hP o).1 _ x hx) fun whole => tru_form hf whole
end
/-! ### what is not covered: no answer -/
def mErr : ME := fun _ _ _ => .err
def tErr : MB := fun _ _ _ => .err
def sErr : MS := fun _ _ _ => .err
theorem pe_err {G : Gc} {tk : Tks} {cl : Cl} {W : WX} {X : Cx} {e : Expr} : PE X e (RdE G tk cl W mErr) := ⟨fun pins s σ H Q I ⟨ι, env, S, r, s', q⟩ => q.elim⟩
theorem pt_err {G : Gc} {tk : Tks} {cl : Cl} {W : WX} {X : Cx} {e : Expr} : PT X e (RdB G tk cl W tErr) := ⟨fun pins s σ H Q I ⟨ι, env, S, r, s', q⟩ => q.elim⟩
theorem ps_err {G : Gc} {tk : Tks} {cl : Cl} {W : WX} {X : Cx} {st : Stmt} : PS X st (RdS G tk cl W sErr) := ⟨fun pins s σ H Q I ⟨ι, env, S, r, s', q⟩ => q.elim⟩
theorem ps_setE {G : Gc} {tk : Tks} {cl : Cl} {W : WX} {X : Cx} {st : Stmt} {i : Nat} : PS X st (RdS G tk cl W (sS i mErr)) := ⟨fun pins s σ H Q I ⟨ι, env, S, r, s', q⟩ => q.elim⟩
def orE : Option ME → ME
  | some m => m
  | none => mErr
def orB : Option MB → MB
  | some m => m
  | none => tErr
def orS : Option MS → MS
  | some m => m
  | none => sErr
def cp : Nat → Cp
  | 0 => ⟨fun _ _ => none, fun _ _ => none⟩
  | n + 1 => ⟨fun C e => some (orE (stepE (cp n) C e)), fun C e => some (orB (stepB (cp n) C e))⟩
theorem cp_ok : ∀ n, Snd (cp n)
  | 0 => fun o => ⟨fun e m h => (nomatch h), fun e t h => (nomatch h)⟩
  | n + 1 => fun o => ⟨fun e m h => by
    cases h
    cases q : stepE (cp n) _ e with
    | none => exact pe_err
    | some m => exact stepE_ok (cp_ok n) o q, fun e t h => by
    cases h
    cases q : stepB (cp n) _ e with
    | none => exact pt_err
    | some m => exact stepB_ok (cp_ok n) o q⟩
end Mi

set_option Elab.async false
set_option linter.all false
set_option maxRecDepth 100000
set_option maxHeartbeats 2000000
namespace Mi
open PySem PySem.Spec PyProof.Rows L2

/-! ### statements -/
structure Oks (G : Gc) (C : Cc) (tk : Tks) (cl : Cl) (W : WX) (k : Nat) (X : Cx) : Prop extends Okx G C tk cl W k X where
  own : C.calm = true → PassesOwn (model X.prog X.w) X.A X.env X.xe
  stk : C.calm = true → X.stack = X.env :: X.outer ∧ X.env.frame = some X.env.locals
  exn : C.calm = true → tk.ex = none
def swF (kl : Str → Bool) (ts vs : List Expr) : Option (Option (List Str)) :=
  if (!(ts.length == 2 || ts.length == 3) || vs.length != ts.length) = true then some none else
  if vs.any isStar = true then some none else
  if ((ts.filterMap fun e => match e with
      | .Name id pos => if (kl id && pos.line == (ts.head?.map (·.pos.line)).getD 0) = true then some id else none
      | _ => none).length != ts.length || (ts.filterMap fun e => match e with
      | .Name id pos => if (kl id && pos.line == (ts.head?.map (·.pos.line)).getD 0) = true then some id else none
      | _ => none).eraseDups.length != (ts.filterMap fun e => match e with
      | .Name id pos => if (kl id && pos.line == (ts.head?.map (·.pos.line)).getD 0) = true then some id else none
      | _ => none).length) = true then some none else
  if vs.all (foldedForSure 8) = true then some none else
  if vs.all (constantsAlone 8) = true then none else
  some (some (ts.filterMap fun e => match e with
      | .Name id pos => if (kl id && pos.line == (ts.head?.map (·.pos.line)).getD 0) = true then some id else none
      | _ => none))
theorem swF_ok {kl : Str → Bool} {env : PySem.Env} (hk : env.scope.kind = .function) (hkl : ∀ x, kl x = (env.kindOf x == some .local)) {ts vs : List Expr} {k k2 : Nat} {p p2 : Pos} {r : Option (List Str)} (h : swF kl ts vs = some r) : swappedStores [.Tuple ts k p] (.Tuple vs k2 p2) env = pure r := by
  have hb : (env.blockKind != .function) = false := by unfold PySem.Env.blockKind; rw [hk]; rfl
  unfold swF at h
  simp only [hkl] at h
  unfold swappedStores
  simp only [hb, Bool.or_false]
  split at h
  · rename_i h1
    cases h
    rw [if_pos h1]
  · rename_i h1
    rw [if_neg h1]
    refine Eq.trans (ite_congr (c := vs.any isStar = true) (congrArg (· = true) (congrArg (fun f => vs.any f) (funext fun e => by cases e <;> rfl))) (fun _ => rfl) (fun _ => rfl)) ?_
    split at h
    · rename_i h2
      cases h
      rw [if_pos h2]
    · rename_i h2
      rw [if_neg h2]
      split at h
      · rename_i h3
        cases h
        exact if_pos h3
      · rename_i h3
        refine (if_neg h3).trans ?_
        split at h
        · rename_i h4
          cases h
          rw [if_pos h4]
        · rename_i h4
          rw [if_neg h4]
          split at h
          · cases h
          · rename_i h5
            cases h
            rw [if_neg h5]
            rfl

def isLoc (C : Cc) (x : Nm) : Bool := match lookN C.sk x with
  | some .local => true
  | _ => false
def ownK : NameKind → Bool
  | .local => true
  | .cell => true
  | _ => false
def swLc (C : Cc) (x : Nm) (px : Pos) (s : Scope) (lp : Pos) : Bool := isLoc C x && Nat.beq px.line lp.line && !(nrm s.names).any fun p => eqN p.1 x && ownK p.2
def suiteC (C : Cc) : Cc := { C with calm := false, act := false, lam := false, ise := true }
def cAsN (C : Cc) (x : Str) (px : Pos) (v : Expr) : Option ME → Option MS := fun m? => gd (setK C (nmOf x) && (match v with
  | .ListComp _ [⟨_, _, _, 0⟩] s lp => !swLc C (nmOf x) px s lp || C.calm
  | v => notComp v)) ((idxN C.N (nmOf x)).bind fun i => m?.bind fun m => some (sS i m))
def cAsT (P : Cp) (C : Cc) (ts : List Expr) (tg v : Expr) : Option MS := match v with
  | .Tuple vs _ _ => match swF (fun x => isLoc C (nmOf x)) ts vs with
    | some none => (cG C 8 tg).bind fun g => (P.e C v).bind fun m => some (sG g.1 m)
    | some (some ns) => match ts, vs, ns with
      | [.Name x _, .Name y _], [a, b], [x', y'] => gd (C.calm && isLoc C (nmOf x) && isLoc C (nmOf y) && eqN (nmOf x) (nmOf x') && eqN (nmOf y) (nmOf y')) ((idxN C.N (nmOf x)).bind fun i => (idxN C.N (nmOf y)).bind fun j => gd (!Nat.beq i j) ((cA P C [a, b]).bind fun m => some (sP2 i j m)))
      | [.Name x _, .Name y _, .Name z _], [a, b, c], [x', y', z'] => gd (C.calm && isLoc C (nmOf x) && isLoc C (nmOf y) && isLoc C (nmOf z) && eqN (nmOf x) (nmOf x') && eqN (nmOf y) (nmOf y') && eqN (nmOf z) (nmOf z')) ((idxN C.N (nmOf x)).bind fun i => (idxN C.N (nmOf y)).bind fun j => (idxN C.N (nmOf z)).bind fun l => gd (!Nat.beq i j && !Nat.beq i l && !Nat.beq j l) ((cA P C [a, b, c]).bind fun m => some (sP3 i j l m)))
      | _, _, _ => none
    | none => none
  | v => gd (notComp v) ((cG C 8 tg).bind fun g => (P.e C v).bind fun m => some (sG g.1 m))
def cAs (P : Cp) (C : Cc) (tgs : List Expr) (v : Expr) : Option MS := match tgs with
  | [.Name x px] => cAsN C x px v (P.e C v)
  | [.Tuple ts kk tp] => cAsT P C ts (.Tuple ts kk tp) v
  | [.Subscript o i _] => gd (notSlice i) ((P.e C o).bind fun mo => (P.e C i).bind fun mi => (P.e C v).bind fun mv => some (sA mo mi mv))
  | _ => none
def cRz (C : Cc) (e : Expr) : Option MS := match e with
  | .Call (.Name x _) [.Constant (.str _) _ _] [] _ => match glV C (nmOf x) with
    | some (.exc c) => gd C.calm (some (sRz c))
    | _ => none
  | _ => none
def isDoc : Expr → Bool
  | .Constant (.str _) _ _ => true
  | _ => false
def cLs (f : Stmt → Option MS) : List Stmt → Option MS
  | [] => some sN
  | s :: r => (f s).bind fun a => (cLs f r).bind fun b => some (sQ a b)
def cTr (C : Cc) (x n : Str) (b : Nat → Option MS) : Option MS := match glV C (nmOf x) with
  | some (.exc c) => gd (C.calm && isLoc C (nmOf n)) ((idxN C.N (nmOf n)).bind fun i => b i)
  | _ => none
def excI (C : Cc) (x : Str) : Option Nat := match glV C (nmOf x) with
  | some (.exc c) => some c
  | _ => none
def stepS (P : Cp) (f : Cc → Stmt → Option MS) : Cc → Stmt → Option MS := fun C st => match st with
    | .Expr e _ => match isDoc e with
      | true => some sN
      | false => gd (notComp e) ((P.e C e).bind fun m => some (sX m))
    | .Return none _ => some sRN
    | .Return (some e) _ => (P.e C e).bind fun m => some (sR m)
    | .If c a b _ => (P.b C c).bind fun t => (cLs (f C) a).bind fun x => (cLs (f C) b).bind fun y => some (sI t x y)
    | .For tg iter body [] _ => gd C.calm ((cI P C tg iter).bind fun i => (cG C 8 tg).bind fun g => (cLs (f C) body).bind fun b => some (sFo g.1 i b))
    | .While c body [] _ => gd C.calm ((P.b C c).bind fun t => (cLs (f C) body).bind fun b => some (sWh t b))
    | .Pass _ => some sN
    | .Break _ => some sBk
    | .Continue _ => some sCt
    | .Assign tgs v _ => cAs P C tgs v
    | .Raise (some e) none _ => cRz C e
    | .Try body [.ExceptHandler (some (.Name x _)) (some nm) (b0 :: su) _] [] [] _ => gd (C.calm && isLoc C (nmOf nm)) ((excI C x).bind fun c => (idxN C.N (nmOf nm)).bind fun i => (cLs (f C) body).bind fun a => (cLs (f (suiteC C)) (b0 :: su)).bind fun b => some (sTr C.sub c i a b))
    | _ => none
def cS (P : Cp) : Nat → Cc → Stmt → Option MS
  | 0, _, _ => none
  | n + 1, C, st => some (orS (stepS P (cS P n) C st))
section
variable {P : Cp} {G : Gc} {C : Cc} {tk : Tks} {cl : Cl} {W : WX} {k : Nat} {X : Cx}
theorem loc_ok (o : Okx G C tk cl W k X) {x : Str} (h : isLoc C (nmOf x) = true) : X.env.scope.names.lookup x = some .local := by
  unfold isLoc at h
  rw [o.lk] at h
  split at h
  · rename_i e; exact e
  · cases h
theorem isLoc_eq (o : Okx G C tk cl W k X) (x : Str) : isLoc C (nmOf x) = (X.env.kindOf x == some .local) := by
  unfold isLoc
  rw [o.lk]
  show _ = (X.env.scope.names.lookup x == some .local)
  cases X.env.scope.names.lookup x with
  | none => rfl
  | some kd => cases kd <;> rfl
theorem swLc_ok (o : Okx G C tk cl W k X) {x : Str} {px lp : Pos} {s : Scope} {elt : Expr} {gens : List Comprehension} {l : Nat} : swapsWith (.ListComp elt gens s lp) (some (.Name x px)) l X.env = pure (swLc C (nmOf x) px s lp) := by
  have hb : (X.env.blockKind == .function) = true := by unfold PySem.Env.blockKind; rw [o.knd]; rfl
  show pure (X.env.blockKind == .function && X.env.kindOf x == some .local && px.line == lp.line && !(s.names.any fun (n, k) => n == x && (k == .local || k == .cell))) = _
  rw [hb, Bool.true_and]
  unfold swLc
  rw [isLoc_eq o]
  have e : ((nrm s.names).any fun p => eqN p.1 (nmOf x) && ownK p.2) = s.names.any fun (n, k) => n == x && (k == .local || k == .cell) := by
    unfold nrm
    rw [List.any_map]
    congr 1
    funext ⟨n, kd⟩
    simp only [Function.comp, eqN_str]
    cases kd <;> rfl
  rw [e]
  have e3 : (px.line == lp.line) = Nat.beq px.line lp.line := by rw [Bool.eq_iff_iff]; simp
  rw [e3]
theorem cLc_set (hP : Snd P) (o : Okx G C tk cl W k X) (hc : C.calm = true) {elt tg iter : Expr} {ifs : List Expr} {s : Scope} {m : ME} {lp px pos : Pos} {x : Str} {i : Nat} (hi : X.N[i]? = some x) (hl : X.env.scope.names.lookup x = some .local) (hw : swLc C (nmOf x) px s lp = true) (h : cLc P C elt tg iter ifs s = some m) :
    PS X (.Assign [.Name x px] (.ListComp elt [⟨tg, iter, ifs, 0⟩] s lp) pos) (RdS G tk cl W (sS i m)) := by
  simp only [cLc, gd_iff, Option.bind_eq_some_iff] at h
  obtain ⟨hb, ⟨g, is⟩, hg, his, me, he, mt, ht, h⟩ := h
  have hf : fnK s = true := by simp only [blkB, Bool.and_eq_true] at hb; exact hb.1
  have his' : ∀ i ∈ is, i ∈ (ownOf C s.names).map (·.2) := fun i hi => memN_ok (List.all_eq_true.mp his i hi)
  rw [hc] at h
  simp only [Option.bind_eq_some_iff, Option.some.injEq] at h
  obtain ⟨mi, hi', rfl⟩ := h
  obtain ⟨p1, p2⟩ := cI_ok hP o hi'
  have gg := (cG_ok (blk_okx o hc hf X.s_0 (fun _ => none) 0 [] []) 8 tg g is hg).2
  exact rs_setLc (o.calm hc) o.nd hi hl (by rw [swLc_ok o, hw]) p1 (blk_ok o hb) gg his' (fun t H A l fp => (cG_ok (blk_okx o hc hf t H A l fp) 8 tg g is hg).1) (fun t H A l fp => cTs_ok hP (blk_okx o hc hf t H A l fp) ht) (fun t H A l fp => (hP (blk_okx o hc hf t H A l fp)).1 elt me he) (folded_no p2)
theorem sole_tup {ts : List Expr} {kk : Nat} {p : Pos} {e : Expr} {l : Nat} {env : PySem.Env} (h : notComp e = true) : swapsWithSole [.Tuple ts kk p] e l env = pure false := by
  show swapsWith e (some (.Tuple ts kk p)) l env = pure false
  exact swaps_no h
theorem sole_sub {ob i : Expr} {p : Pos} {e : Expr} {l : Nat} {env : PySem.Env} : swapsWithSole [.Subscript ob i p] e l env = pure false := by
  show swapsWith e (some (.Subscript ob i p)) l env = pure false
  exact swaps_sub
theorem cAsN_ok (hP : Snd P) (o : Oks G C tk cl W k X) {x : Str} {px pos : Pos} {v : Expr} {m : MS} (h : cAsN C x px v (P.e C v) = some m) (hE : ∀ C' e, ∀ elt gens s lp, e = Expr.ListComp elt gens s lp → P.e C' e = none ∨ ∃ P', Snd P' ∧ P.e C' e = some (orE (stepE P' C' e))) : PS X (.Assign [.Name x px] v pos) (RdS G tk cl W m) := by
  simp only [cAsN, gd_iff, Bool.and_eq_true, Option.bind_eq_some_iff, Option.some.injEq] at h
  obtain ⟨⟨h1, h2⟩, i, hi, mm, hm, rfl⟩ := h
  obtain ⟨q1, q2⟩ := set_ok o.toOkx h1
  have hN := idx_N o.N hi
  split at h2
  · rename_i elt tg iter ifs s lp
    cases hw : swLc C (nmOf x) px s lp with
    | false => exact rs_set o.nd hN q1 ((hP o.toOkx).1 _ mm hm) (by rw [swLc_ok o.toOkx, hw]) q2
    | true =>
      rw [hw] at h2
      have hc : C.calm = true := by simpa using h2
      have hl : X.env.scope.names.lookup x = some .local := by
        simp only [swLc, Bool.and_eq_true] at hw
        exact loc_ok o.toOkx hw.1.1
      rcases hE C _ elt _ s lp rfl with e | ⟨P', hP', e⟩
      · rw [e] at hm; cases hm
      · rw [e] at hm
        cases hm
        cases q : stepE P' C (.ListComp elt [⟨tg, iter, ifs, 0⟩] s lp) with
        | none => exact ps_setE
        | some m => exact cLc_set hP' o.toOkx hc hN hl hw q
  · exact rs_set o.nd hN q1 ((hP o.toOkx).1 _ mm hm) (swaps_no h2) q2
theorem cAsT_ok (hP : Snd P) (o : Oks G C tk cl W k X) {ts : List Expr} {kk : Nat} {tp pos : Pos} {v : Expr} {m : MS} (h : cAsT P C ts (.Tuple ts kk tp) v = some m) : PS X (.Assign [.Tuple ts kk tp] v pos) (RdS G tk cl W m) := by
  unfold cAsT at h
  split at h
  · rename_i vs k2 p2
    split at h
    · rename_i hw
      simp only [Option.bind_eq_some_iff, Option.some.injEq] at h
      obtain ⟨⟨g, is⟩, hg, mm, hm, rfl⟩ := h
      obtain ⟨p1, p2⟩ := cG_ok o.toOkx 8 _ g is hg
      exact rs_asg ((hP o.toOkx).1 _ mm hm) p1 p2 rfl (swF_ok o.knd (isLoc_eq o.toOkx) hw) rfl
    · rename_i ns hw
      have sw := swF_ok (env := X.env) (k := kk) (k2 := k2) (p := tp) (p2 := p2) o.knd (isLoc_eq o.toOkx) hw
      split at h
      · rename_i x px y py a b x' y'
        simp only [gd_iff, Bool.and_eq_true, Option.bind_eq_some_iff, Option.some.injEq, Bool.not_eq_true'] at h
        obtain ⟨⟨⟨⟨⟨hc, hx⟩, hy⟩, e1⟩, e2⟩, i, hi, j, hj, hij, mm, hm, rfl⟩ := h
        rw [← nm_inj (eqN_iff.mp e1), ← nm_inj (eqN_iff.mp e2)] at sw
        exact rs_par (o.calm hc) o.nd (idx_N o.N hi) (idx_N o.N hj) (fun z => by rw [z] at hij; simp at hij) (loc_ok o.toOkx hx) (loc_ok o.toOkx hy) (cA_ok hP o.toOkx hm) sw
      · rename_i x px y py z pz a b c x' y' z'
        simp only [gd_iff, Bool.and_eq_true, Option.bind_eq_some_iff, Option.some.injEq, Bool.not_eq_true'] at h
        obtain ⟨⟨⟨⟨⟨⟨⟨hc, hx⟩, hy⟩, hz⟩, e1⟩, e2⟩, e3⟩, i, hi, j, hj, l, hl, ⟨⟨hij, hil⟩, hjl⟩, mm, hm, rfl⟩ := h
        rw [← nm_inj (eqN_iff.mp e1), ← nm_inj (eqN_iff.mp e2), ← nm_inj (eqN_iff.mp e3)] at sw
        exact rs_par3 (o.calm hc) o.nd (idx_N o.N hi) (idx_N o.N hj) (idx_N o.N hl) (fun z => by rw [z] at hij; simp at hij) (fun z => by rw [z] at hil; simp at hil) (fun z => by rw [z] at hjl; simp at hjl) (loc_ok o.toOkx hx) (loc_ok o.toOkx hy) (loc_ok o.toOkx hz) (cA_ok hP o.toOkx hm) sw
      · cases h
    · cases h
  · rename_i hv
    simp only [gd_iff, Option.bind_eq_some_iff, Option.some.injEq] at h
    obtain ⟨hn, ⟨g, is⟩, hg, mm, hm, rfl⟩ := h
    obtain ⟨p1, p2⟩ := cG_ok o.toOkx 8 _ g is hg
    refine rs_asg ((hP o.toOkx).1 _ mm hm) p1 p2 (sole_tup hn) ?_ rfl
    cases v <;> first | rfl | exact absurd rfl (hv _ _ _)
theorem cAs_ok (hP : Snd P) (o : Oks G C tk cl W k X) {tgs : List Expr} {v : Expr} {pos : Pos} {m : MS} (h : cAs P C tgs v = some m) (hE : ∀ C' e, ∀ elt gens s lp, e = Expr.ListComp elt gens s lp → P.e C' e = none ∨ ∃ P', Snd P' ∧ P.e C' e = some (orE (stepE P' C' e))) : PS X (.Assign tgs v pos) (RdS G tk cl W m) := by
  unfold cAs at h
  split at h
  · exact cAsN_ok hP o h hE
  · exact cAsT_ok hP o h
  · rename_i ob i tp
    simp only [gd_iff, Option.bind_eq_some_iff, Option.some.injEq] at h
    obtain ⟨hs, mo, ho, mi, hi, mv, hv, rfl⟩ := h
    exact set_par ((hP o.toOkx).1 _ mo ho) ((hP o.toOkx).1 _ mi hi) ((hP o.toOkx).1 _ mv hv) (fun _ => by cases i <;> first | rfl | cases hs) sole_sub rfl rfl
  · cases h
theorem cRz_ok (o : Oks G C tk cl W k X) {e : Expr} {pos : Pos} {m : MS} (h : cRz C e = some m) : PS X (.Raise (some e) none pos) (RdS G tk cl W m) := by
  unfold cRz at h
  split at h
  · split at h
    · rename_i c hv
      simp only [gd_iff, Option.some.injEq] at h
      obtain ⟨hc, rfl⟩ := h
      obtain ⟨h1, h2, h3, h4, B, ni, ii, bmB, F, q, s1, s2⟩ := gl_ok o.toOkx hv
      rw [mk_nm] at h2 h3
      exact rs_raise (o.calm hc) o.tak (L2N.pmk_own F (by rw [o.K]; exact q) h2 (by rw [o.K]; exact h4) (raises_own (by rw [o.K]; exact s1) (by rw [o.K]; exact s2)) h1 h3)
    · cases h
  · cases h
theorem tr_oks (o : Oks G C tk cl W k X) (hc : C.calm = true) {W' : WX} {pn : List (Addr × Obj)} {xe : Value → Shared → Prop} (t : L2N.Takes (X.tr pn xe) W') (p : PassesOwn (model X.prog X.w) X.A X.env xe) : Oks G C tk cl W' k (X.tr pn xe) where
  K := o.K
  N := o.N
  nd := o.nd
  knd := o.knd
  sk := o.sk
  gl := o.gl
  fns := o.fns
  room := o.room
  un := o.un
  calm := o.calm
  hot := fun z => by rw [hc] at z; cases z
  tak := t
  fn := o.fn
  ise := fun _ a d q b c e1 _ => by rw [o.exn hc] at e1; cases e1
  sub := o.sub
  act := fun z pn' xe' W2 a p1 p2 t2 hN => o.act z pn' xe' W2 a p1 p2 t2 hN
  lam := fun z => ⟨(o.lam z).ex⟩
  own := fun _ => p
  stk := o.stk
  exn := o.exn
theorem suite_oks (o : Oks G C tk cl W k X) {a : Addr} {oe : Obj} {d : Nat} {p : Option PV} {pn : List (Addr × Obj)} (hz : L2N.Zn (.ref (G.ga d)) none oe) (hd : ∃ vs, oe.data = .fields vs) : Oks G (suiteC C) ⟨some (a, d, p), tk.cl⟩ cl W0 k (X.suite a ((a, oe) :: pn)) where
  K := o.K
  N := o.N
  nd := o.nd
  knd := o.knd
  sk := o.sk
  gl := o.gl
  fns := o.fns
  room := fun z => by cases z
  un := o.un
  calm := fun z => by cases z
  hot := fun _ => by
    obtain ⟨vs, hv⟩ := hd
    exact ⟨(a, oe), ⟨rfl, vs, hv, hz.2.2 vs hv⟩, List.mem_cons_self⟩
  tak := takes_w0
  fn := o.fn
  ise := fun _ a' d' p' b c e1 e2 => by
    have q : some (a, d, p) = some (a', d', p') := e1
    cases q
    have E := (o.sub _ c b e2).2.2
    rw [← o.K] at E
    exact call_isE E hz.zc hd
  sub := o.sub
  act := fun z => by cases z
  lam := fun z => by cases z
  own := fun z => by cases z
  stk := fun z => by cases z
  exn := fun z => by cases z
theorem cLs_ok {f : Stmt → Option MS} (hf : ∀ st m, f st = some m → PS X st (RdS G tk cl W m)) : ∀ {sts : List Stmt} {m : MS}, cLs f sts = some m → PSs X sts (RdS G tk cl W m)
  | [], m, h => by cases h; exact rss_nil
  | s :: r, m, h => by
    simp only [cLs, Option.bind_eq_some_iff, Option.some.injEq] at h
    obtain ⟨a, ha, b, hb, rfl⟩ := h
    exact rss_cons (hf s a ha) (cLs_ok hf hb)
theorem excI_ok (o : Okx G C tk cl W k X) {x : Str} {c : Nat} (h : excI C x = some c) : Names X x (.ref (G.ga c)) := by
  unfold excI at h
  split at h
  · rename_i hv
    cases h
    obtain ⟨h1, h2, h3, h4⟩ := gl_ok o hv
    rw [mk_nm] at h2 h3
    exact ⟨h1, h3, .inl h2⟩
  · cases h
end
theorem stepS_ok {P : Cp} {f : Cc → Stmt → Option MS} (hP : Snd P) (hE : ∀ C' e, ∀ elt gens s lp, e = Expr.ListComp elt gens s lp → P.e C' e = none ∨ ∃ P', Snd P' ∧ P.e C' e = some (orE (stepE P' C' e))) (hF : ∀ {G : Gc} {C : Cc} {tk : Tks} {cl : Cl} {W : WX} {k : Nat} {X : Cx}, Oks G C tk cl W k X → ∀ st m, f C st = some m → PS X st (RdS G tk cl W m))
    {G : Gc} {C : Cc} {tk : Tks} {cl : Cl} {W : WX} {k : Nat} {X : Cx} (o : Oks G C tk cl W k X) {st : Stmt} {m : MS} (h : stepS P f C st = some m) : PS X st (RdS G tk cl W m) := by
    have ih : ∀ {sts : List Stmt} {m : MS}, cLs (f C) sts = some m → PSs X sts (RdS G tk cl W m) := fun h => cLs_ok (fun st m h => hF o st m h) h
    unfold stepS at h
    split at h
    · rename_i e p
      split at h
      · rename_i hd
        cases h
        unfold isDoc at hd
        split at hd
        · exact rs_doc
        · cases hd
      · simp only [gd_iff, Option.bind_eq_some_iff, Option.some.injEq] at h
        obtain ⟨hn, mm, hm, rfl⟩ := h
        exact rs_expr ((hP o.toOkx).1 _ mm hm) (swaps_no hn)
    · cases h; exact rs_retN
    · simp only [Option.bind_eq_some_iff, Option.some.injEq] at h
      obtain ⟨mm, hm, rfl⟩ := h
      exact rs_ret ((hP o.toOkx).1 _ mm hm)
    · simp only [Option.bind_eq_some_iff, Option.some.injEq] at h
      obtain ⟨t, ht, x, hx, y, hy, rfl⟩ := h
      exact rs_if ((hP o.toOkx).2 _ t ht) (ih hx) (ih hy)
    · simp only [gd_iff, Option.bind_eq_some_iff, Option.some.injEq] at h
      obtain ⟨hc, mi, hi, ⟨g, is⟩, hg, b, hb, rfl⟩ := h
      obtain ⟨p1, p2⟩ := cI_ok hP o.toOkx hi
      obtain ⟨q1, q2⟩ := cG_ok o.toOkx 8 _ g is hg
      exact rs_for (o.own hc) (o.calm hc) p1 q1 q2 (ih hb) (folded_no p2)
    · simp only [gd_iff, Option.bind_eq_some_iff, Option.some.injEq] at h
      obtain ⟨hc, t, ht, b, hb, rfl⟩ := h
      exact rs_while (o.own hc) ((hP o.toOkx).2 _ t ht) (ih hb)
    · cases h; exact rs_pass
    · cases h; exact rs_break
    · cases h; exact rs_cont
    · exact cAs_ok hP o h hE
    · exact cRz_ok o h
    · rename_i body x np nm b0 su hp pos
      simp only [gd_iff, Bool.and_eq_true, Option.bind_eq_some_iff, Option.some.injEq] at h
      obtain ⟨⟨hc, hl⟩, c, hx, i, hi, a, ha, b, hb, rfl⟩ := h
      obtain ⟨s1, s2⟩ := o.stk hc
      exact rs_try o.K s1 s2 o.nd (idx_N o.N hi) (loc_ok o.toOkx hl) (excI_ok o.toOkx hx) o.tak (o.exn hc) (fun d b e => (o.sub d c b e).2.1)
        (fun W' pn xe t p => cLs_ok (fun st m h => hF (tr_oks o hc t p) st m h) ha)
        (fun adr oe d p pn hz hd => cLs_ok (fun st m h => hF (suite_oks o hz hd) st m h) hb)
    · cases h
theorem cS_ok {P : Cp} (hP : Snd P) (hE : ∀ C' e, ∀ elt gens s lp, e = Expr.ListComp elt gens s lp → P.e C' e = none ∨ ∃ P', Snd P' ∧ P.e C' e = some (orE (stepE P' C' e))) : ∀ (n : Nat) {G : Gc} {C : Cc} {tk : Tks} {cl : Cl} {W : WX} {k : Nat} {X : Cx}, Oks G C tk cl W k X → ∀ st m, cS P n C st = some m → PS X st (RdS G tk cl W m)
  | 0, _, _, _, _, _, _, _, o, st, m, h => by cases h
  | n + 1, G, C, tk, cl, W, k, X, o, st, m, h => by
    cases h
    cases q : stepS P (cS P n) C st with
    | none => exact ps_err
    | some m => exact stepS_ok hP hE (fun o st m h => cS_ok hP hE n o st m h) o q
/-- the compiler, with enough fuel -/
def cBody (C : Cc) (body : List Stmt) : Option MS := cLs (cS (cp 24) 16 C) body
theorem cBody_ok {G : Gc} {C : Cc} {tk : Tks} {cl : Cl} {W : WX} {k : Nat} {X : Cx} (o : Oks G C tk cl W k X) {body : List Stmt} {m : MS} (h : cBody C body = some m) : PSs X body (RdS G tk cl W m) :=
  cLs_ok (fun st m h => cS_ok (cp_ok 24) (fun C' e _ _ _ _ _ => .inr ⟨cp 23, cp_ok 23, rfl⟩) 16 o st m h) h
end Mi

set_option Elab.async false
set_option linter.all false
set_option maxRecDepth 100000
set_option maxHeartbeats 2000000
namespace Mi
open PySem PySem.Spec PyProof.Rows L2

/-! ### what the defs of a text do, to a depth -/
structure Fd where
  np : Nat
  nn : Nat
  m : MS
def outR : RS → Res PV
  | .nx _ S => .ok .non S
  | .rt v S => .ok v S
  | .exc c p _ S => .exc c p S
  | _ => .err
/-- what a def laid and does not give back is forgotten -/
def fin (n : Nat) : Res PV → Res PV
  | .ok v S => match below n v with
    | true => .ok v (S.take n)
    | false => match v with
      | .lst i => match cellL S i with
        | some xs => match belows n xs with
          | true => .ok (.lst n) (S.take n ++ [.lst xs])
          | false => .ok v S
        | none => .ok v S
      | v => .ok v S
  | .exc c none S => .exc c none (S.take n)
  | r => r
def startE (args : List PV) (nn : Nat) : Env := args.map Slot.pv ++ List.replicate (nn - args.length) .un
abbrev CallL := Nat → (Call → Sto → Res PV) → Sto → Res PV
structure Lv where
  c : Call
  l : CallL
  o : Option Call
def stepC (tb : Nat → Option Fd) (v : Lv) : Call := fun j args S => match tb j with
  | some d => match Nat.beq args.length d.np with
    | true => fin S.length (outR (d.m ⟨v.c, v.l, fun _ => .err⟩ (startE args d.nn) S))
    | false => .err
  | none => .err
def stepL (tb : Nat → Option Fd) (v : Lv) : CallL := fun j clo S => match v.o with
  | some cb => match tb j with
    | some d => match Nat.beq d.np 1 with
      | true => fin S.length (outR (d.m ⟨v.c, v.l, clo cb⟩ (.cl :: List.replicate (d.nn - 1) .un) S))
      | false => .err
    | none => .err
  | none => .err
def semT (tb : Nat → Option Fd) : Nat → Lv
  | 0 => ⟨fun _ _ _ => .err, fun _ _ _ => .err, none⟩
  | k + 1 => ⟨stepC tb (semT tb k), stepL tb (semT tb k), some (semT tb k).c⟩
def clAt (tb : Nat → Option Fd) (k : Nat) (act : Sto → Res PV) : Cl := ⟨(semT tb k).c, (semT tb k).l, act⟩

section
variable {G : Gc} {E : XK} {H H' : Hp} {ι ι' : Nat → Addr} {S S' : Sto}
theorem Ext.shrink {n m k : Nat} (e : Ext H ι n H' ι' m) (h1 : n ≤ k) (h2 : k ≤ m) : Ext H ι n H' ι' k :=
  ⟨⟨e.tup, e.frz, e.ext, e.ix, h1⟩, fun a vs h q => let ⟨q1, q2⟩ := e.oth a vs h q; ⟨q1, fun i hi => q2 i (Nat.lt_of_lt_of_le hi h2)⟩⟩
theorem take_len {n : Nat} {S' : Sto} (h : n ≤ S'.length) : (S'.take n).length = n := by rw [List.length_take]; omega
theorem fin_ok {Q : VK} {n : Nat} {r : Res PV} (h : KE G E H ι n (fin n r) (RV G) Q) : KE G E H ι n r (RV G) Q := by
  cases r with
  | err => exact h
  | exc c p S' =>
    intro H' ι' cls d e s q
    have h0 := q
    obtain ⟨_, rfl, _⟩ := h0
    refine h H' ι' cls d ?_ (s.cut n) q
    rw [take_len e.le]
    exact e.shrink (Nat.le_refl _) e.le
  | ok v S' =>
    intro x H' ι' e s r
    unfold fin at h
    dsimp only at h
    cases hb : below n v with
    | true =>
      rw [hb] at h
      refine h x H' ι' ?_ (s.cut n) ?_
      · rw [take_len e.le]; exact e.shrink (Nat.le_refl _) e.le
      · rw [take_len e.le]
        exact Rep.low (fun _ _ h => h) (fun _ _ _ h => h) (fun _ _ => rfl) (Nat.le_refl _) v x hb r
    | false =>
      rw [hb] at h
      dsimp only at h
      split at h
      · rename_i i
        split at h
        · rename_i xs hx
          split at h
          · rename_i hbs
            obtain ⟨rfl, hi⟩ := rep_lst.mp r
            have hn : n ≤ i := by
              unfold below at hb
              by_cases z : i < n
              · rw [Nat.blt_eq.mpr z] at hb; cases hb
              · omega
            refine h (.ref (ι' i)) H' (ixUp ι' n (ι' i)) ?_ (s.move hn (cellL_some hx) hbs) ?_
            · rw [List.length_append, List.length_singleton, take_len e.le]
              refine ⟨⟨e.tup, e.frz, e.ext, fun j hj => ?_, Nat.le_succ _⟩, fun a vs ha q => ?_⟩
              · rw [ixUp_lt hj]; exact e.ix j hj
              · obtain ⟨q1, q2⟩ := e.oth a vs ha q
                refine ⟨q1, fun j hj => ?_⟩
                by_cases hjn : j = n
                · rw [hjn, ixUp_eq]; exact q2 i hi
                · rw [ixUp_lt (by omega)]; exact q2 j (by have := e.le; omega)
            · exact rep_lst.mpr ⟨by rw [ixUp_eq], by rw [List.length_append, List.length_singleton, take_len e.le]; exact Nat.lt_succ_self _⟩
          · exact h x H' ι' e s r
        · exact h x H' ι' e s r
      · exact h x H' ι' e s r
/-- behind a body -/
theorem out_ok {tk : Tks} {Q : VK} {n : Nat} {r : RS} (h : KE G E H ι n (outR r) (RV G) Q) : KS G tk (fun c d _ H => E c d H) { nx := fun _ H' => Q .non H', rt := Q } H ι n r := by
  cases r with
  | nx env S => exact fun σ' H' ι' e s q => h .non H' ι' e s (rep_non.mpr rfl)
  | rt v S => exact h
  | exc c p env S => exact fun σ' H' ι' cls d e s _ q => h H' ι' cls d e s q
  | bk env S => exact h.elim
  | ct env S => exact h.elim
  | err => exact h
theorem start_rel {tk : Tks} {N : List Str} {args : List PV} {vs : List V} {n nn : Nat} (hn : nn = N.length) (r : Reps G.K G.ga H ι n args vs) : ERel G tk H ι n (L2.start N vs) (startE args nn) := by
  have hl := r.len
  refine ⟨?_, fun i s e => ?_⟩
  · unfold startE L2.start
    simp only [List.length_append, List.length_map, List.length_replicate]
    rw [hl, hn]
  · unfold startE at e
    by_cases hi : i < args.length
    · rw [List.getElem?_append_left (by simpa using hi), List.getElem?_map, List.getElem?_eq_getElem hi] at e
      cases e
      obtain ⟨u, h1, h2⟩ := r.get (List.getElem?_eq_getElem hi)
      refine ⟨u, ?_, h2⟩
      unfold L2.start
      rw [List.getElem?_append_left (by rw [List.length_map, hl]; exact hi), List.getElem?_map, h1]
      rfl
    · rw [List.getElem?_append_right (by simpa using hi)] at e
      have := List.mem_of_getElem? e
      rw [List.mem_replicate] at this
      rw [this.2]
      exact True.intro
theorem start_cl {N : List Str} {z : ClI} {n nn : Nat} (hn : nn = N.length) (h1 : 0 < nn) (hc : H z.c = some (LamX.CodeO z.c z.q)) (h0 : ERel0 G H ι n z.σ z.env) : ERel G ⟨none, some z⟩ H ι n (L2.start N [.ref z.f]) (.cl :: List.replicate (nn - 1) .un) := by
  refine ⟨?_, fun i s e => ?_⟩
  · unfold L2.start
    simp only [List.length_append, List.length_map, List.length_replicate, List.length_cons, List.length_nil]
    omega
  · cases i with
    | zero =>
      cases e
      exact ⟨z, rfl, rfl, hc, h0⟩
    | succ i =>
      rw [List.getElem?_cons_succ] at e
      have := List.mem_of_getElem? e
      rw [List.mem_replicate] at this
      rw [this.2]
      exact True.intro
end
end Mi

set_option Elab.async false
set_option linter.all false
set_option maxRecDepth 100000
set_option maxHeartbeats 2000000
namespace Mi
open PySem PySem.Spec PyProof.Rows L2

/-- a def of the text: its name, its statement, its parameters, its slots, its names, what it does, whether it makes lambdas -/
structure Df where
  nm : Str
  st : Stmt
  ps : List Str
  N : List Nm
  sk : List (Nm × NameKind)
  m : MS
  lam : Bool
structure Gl where
  gl : List (Nm × GV)
  isF : Nat → Bool
  isL : Nat → Bool
  sub : Nat → Nat → Option Bool
def Df.cc (D : Df) (g : Gl) : Cc := ⟨D.N, D.sk, g.gl, g.isF, g.isL, g.sub, fun _ => true, true, true, D.lam, false⟩
structure DfOk (g : Gl) (D : Df) : Prop where
  sc : FnScope (D.N.map mkS) D.ps (defScope D.st)
  sk : nrm (defScope D.st).names = D.sk
  bd : ∀ (kV doc pm : Value) (an : Option Addr) (cdv ct : Value) (us : List Value), us.length = D.ps.length → bindArgs (PySem.W.fnOf D.nm D.nm (defArgs D.st) (defBody D.st) (defScope D.st) .none kV doc pm an cdv ct) ⟨us, []⟩ = pure (D.ps.zip us)
  cm : cBody (D.cc g) (defBody D.st) = some D.m
abbrev FunS (K : PySem.W.Frag) (D : Df) (f : Addr) (fd : FuncData) : Prop := FunD K D.nm D.nm (defArgs D.st) (defBody D.st) (defScope D.st) [] [] f fd
structure Wd (G : Gc) (mg : Str → Option Value) (base : Heap) (g : Gl) (defs : List Df) : Prop where
  ok : ∀ (j : Nat) (D : Df), defs[j]? = some D → DfOk g D
  gl : ∀ x v, lookN g.gl x = some v → GvOk G mg x v
  sub : ∀ d c b, g.sub d c = some b → PySem.W.kitOne G.K (.ref (G.ga d)) (.ref (G.ga c)) = some b ∧ PySem.W.exmOne G.K (.ref (G.ga d)) (.ref (G.ga c)) = some b ∧ ExcC G.K (G.ga d)
  fn : ∀ (j : Nat) (D : Df), defs[j]? = some D → ∃ fd, FunS G.K D (G.ga j) fd
  isF : ∀ j, g.isF j = true → ∃ D : Df, defs[j]? = some D
  isL : ∀ j, g.isL j = true → ∃ (D : Df) (a : Str), defs[j]? = some D ∧ D.ps = [a] ∧ (a == ("__debug__" : Str)) = false ∧ (a == ("__classdict__" : Str)) = false
  tb : ∀ (j : Nat) (D : Df), defs[j]? = some D → D.lam = true → ∃ c Pt, (∀ oc od fd osl, G.K.lookup (G.ga j) = some ⟨oc, od, .func fd, osl⟩ → fd.code = .ref c) ∧ LamX.TabB base mg c Pt ∧ (Pt, D.nm ++ ".<locals>." ++ "<lambda>") ∈ G.T ∧ ∀ p ∈ G.T, p.1 = Pt → p.2 = D.nm ++ ".<locals>." ++ "<lambda>"
def tbOf (defs : List Df) (j : Nat) : Option Fd := match defs[j]? with
  | some D => some ⟨D.ps.length, D.N.length, D.m⟩
  | none => none
theorem no_read {G : Gc} {tk : Tks} {cl : Cl} {W : WX} {X : Cx} {e : Expr} {m : ME} (h : ∀ env S, m cl env S = .err) : PE X e (RdE G tk cl W m) := ⟨fun pins s σ H Q I ⟨ι, env, S, r, s', k⟩ => by
  rw [h] at k
  exact k.elim⟩
section
variable {G : Gc} {P : Program} {w : World} {mg : Str → Option Value} {base : Heap} {g : Gl} {defs : List Df}
/-- what is known to the depth k -/
structure Known (G : Gc) (P : Program) (w : World) (mg : Str → Option Value) (base : Heap) (g : Gl) (defs : List Df) (tb : Nat → Option Fd) (k : Nat) : Prop where
  fn2 : ∀ (j : Nat) (D : Df) (fd : FuncData), defs[j]? = some D → FunS G.K D (G.ga j) fd → FnOk P w G.K mg base (L2N.CX P w) k (G.ga j) fd D.ps (spF G (semT tb k).c j)
  fns : ∀ j, g.isF j = true → FnAt G P w mg base k (semT tb k).c j
  lam : (∀ j clo S, (semT tb k).l j clo S = .err) ∨ ∃ k0, k = k0 + 2 ∧ (∀ j, g.isL j = true → LamAt G P w mg base (k0 + 1) ((semT tb k).l j) (semT tb k0).c j) ∧ ∀ j, g.isF j = true → FnAt G P w mg base k0 (semT tb k0).c j
theorem cx_oks {j k : Nat} {D : Df} {tb : Nat → Option Fd} {cd : Value} {zo : Option ClI} {act : Sto → Res PV} {A : Around} {outer : List PySem.Env} {s : Shared} {H : Hp} {E : XK} (hW : Wd G mg base g defs) (hD : defs[j]? = some D) (hc : D.lam = true → ∃ oc od fd osl, G.K.lookup (G.ga j) = some ⟨oc, od, .func fd, osl⟩ ∧ fd.code = cd)
    (hk : Known G P w mg base g defs tb k) (hr : Room k (A.deeper (envOfC D.nm (defScope D.st) s.heap.objs.size (G.ga j) cd)))
    (ha : ∀ (pn : List (Addr × Obj)) (xe : Value → Shared → Prop) (W' : WX) (a : Str) (p1 p2 : Pos), L2N.Takes ((cxOf (L2N.CX P w) P w G.K mg base (D.N.map mkS) D.nm (defScope D.st) (G.ga j) cd A outer s H E).tr pn xe) W' → (D.N.map mkS)[0]? = some a →
      PE ((cxOf (L2N.CX P w) P w G.K mg base (D.N.map mkS) D.nm (defScope D.st) (G.ga j) cd A outer s H E).tr pn xe) (.Call (.Name a p1) [] [] p2) (RdE G ⟨none, zo⟩ (clAt tb k act) W' (mAct 0))) :
    Oks G (D.cc g) ⟨none, zo⟩ (clAt tb k act) (fun c d _ H => E c d H) k (cxOf (L2N.CX P w) P w G.K mg base (D.N.map mkS) D.nm (defScope D.st) (G.ga j) cd A outer s H E) where
  K := rfl
  N := rfl
  nd := (hW.ok j D hD).sc.nd
  knd := (hW.ok j D hD).sc.kind
  sk := (hW.ok j D hD).sk
  gl := hW.gl
  fns := hk.fns
  room := fun _ => hr
  un := hr.units
  calm := fun _ => rfl
  hot := fun z => by cases z
  tak := L2N.takes_of rfl rfl rfl rfl
  fn := fun _ _ => rfl
  ise := fun z => by cases z
  sub := hW.sub
  act := fun _ => ha
  lam := fun z => ⟨by
    rcases hk.lam with e | ⟨k0, e, h1, h2⟩
    · exact .inl e
    · obtain ⟨c, Pt, q1, q2, q3, q4⟩ := hW.tb j D hD z
      obtain ⟨oc, od, fd, osl, q5, q6⟩ := hc z
      exact .inr ⟨k0, (semT tb k0).c, c, Pt, e, q2, q6.symm.trans (q1 _ _ _ _ q5), q3, q4, h1, h2⟩⟩
  own := fun _ => PassesOwn.leaving
  stk := fun _ => ⟨rfl, rfl⟩
  exn := fun _ => rfl
theorem known (hW : Wd G mg base g defs) : ∀ k, Known G P w mg base g defs (tbOf defs) k := by
  intro k
  induction k using Nat.strongRecOn with
  | ind k ih =>
    have bindsOf : ∀ (j : Nat) (D : Df) (fd : FuncData), defs[j]? = some D → FunS G.K D (G.ga j) fd → Binds G.K fd D.ps [] := fun j D fd hD F => F.bindsN (hW.ok j D hD).bd
    have fn2 : ∀ (j : Nat) (D : Df) (fd : FuncData), defs[j]? = some D → FunS G.K D (G.ga j) fd → FnOk P w G.K mg base (L2N.CX P w) k (G.ga j) fd D.ps (spF G (semT (tbOf defs) k).c j) := fun j D fd hD F => by
      have tbj : tbOf defs j = some ⟨D.ps.length, D.N.length, D.m⟩ := by unfold tbOf; rw [hD]
      cases k with
      | zero => exact ⟨fun vs H Q E ⟨ι, S, args, s, r, q⟩ => (show False from q).elim, fun A outer s H args us vs Q E _ _ _ _ ⟨ι, S, args, s, r, q⟩ => (show False from q).elim⟩
      | succ k =>
        have open_ : ∀ {vs : List V} {H : Hp} {Q : VK} {E : XK}, spF G (semT (tbOf defs) (k + 1)).c j vs H Q E → ∃ ι S args, SRel G H ι S ∧ Reps G.K G.ga H ι S.length args vs ∧ args.length = D.ps.length ∧
            KE G E H ι S.length (outR (D.m (clAt (tbOf defs) k fun _ => .err) (startE args D.N.length) S)) (RV G) Q := fun {vs H Q E} ⟨ι, S, args, s, r, q⟩ => by
          have q : KE G E H ι S.length (stepC (tbOf defs) (semT (tbOf defs) k) j args S) (RV G) Q := q
          unfold stepC at q
          rw [tbj] at q
          dsimp only at q
          split at q
          · rename_i hb
            exact ⟨ι, S, args, s, r, Nat.eq_of_beq_eq_true hb, fin_ok q⟩
          · exact q.elim
        obtain ⟨oc, od, dV, kV, doc, pm, an, cdv, ct, osl, rfl, lk, hcd, _, _⟩ := F.ex
        refine fn_of lk hcd (hW.ok j D hD).sc (fun vs H Q E h => ?_) (fun A outer s H vs Q E hr h => ?_)
        · obtain ⟨ι, S, args, _, r, hl, _⟩ := open_ h
          rw [r.len, hl]
        · obtain ⟨ι, S, args, sr, r, hl, q⟩ := open_ h
          have o := cx_oks (zo := none) (act := fun _ => .err) (outer := outer) (H := H) (E := E) hW hD (fun _ => ⟨oc, od, _, osl, lk, rfl⟩) (ih k (Nat.lt_succ_self _)) hr fun pn xe W' a p1 p2 _ _ => no_read fun env S => by
            unfold mAct
            split <;> rfl
          exact ⟨_, cBody_ok o (hW.ok j D hD).cm, ι, _, S, start_rel (by rw [List.length_map]) r, sr, out_ok q⟩
    have fns : ∀ j, g.isF j = true → FnAt G P w mg base k (semT (tbOf defs) k).c j := fun j hj => by
      obtain ⟨D, hD⟩ := hW.isF j hj
      obtain ⟨fd, F⟩ := hW.fn j D hD
      exact ⟨fd, D.ps, fn2 j D fd hD F, F.kp, bindsOf j D fd hD F⟩
    refine ⟨fn2, fns, ?_⟩
    match k, ih with
    | 0, _ => exact .inl fun _ _ _ => rfl
    | 1, _ => exact .inl fun _ _ _ => rfl
    | k0 + 2, ih =>
      refine .inr ⟨k0, rfl, fun j hj => ?_, (ih k0 (by omega)).fns⟩
      obtain ⟨D, a, hD, hps, ha1, ha2⟩ := hW.isL j hj
      obtain ⟨fd, F⟩ := hW.fn j D hD
      have tbj : tbOf defs j = some ⟨D.ps.length, D.N.length, D.m⟩ := by unfold tbOf; rw [hD]
      have bF := bindsOf j D fd hD F
      have sc := (hW.ok j D hD).sc
      obtain ⟨oc, od, dV, kV, doc, pm, an, cdv, ct, osl, rfl, lk, hcd, _, _⟩ := F.ex
      rw [hps] at bF sc
      have h0 : (D.N.map mkS)[0]? = some a := by
        have := congrArg (·[0]?) sc.pre
        simpa using this
      have hva : Vis (defScope D.st) a := (sc.par a (by simp)).elim .inl fun z => .inr (.inl z)
      have hnn : 0 < D.N.length := by
        cases q : D.N with
        | nil => rw [q] at h0; cases h0
        | cons x l => simp
      refine ⟨a, D.nm, defArgs D.st, defBody D.st, defScope D.st, dV, kV, doc, pm, cdv, ct, oc, an, od, osl, D.N.map mkS, F.kp, lk, hcd, bF, sc, h0, hva, ha1, ha2, fun A outer s H z clo ι S Q hr sr hz hc0 hact hq => ?_⟩
      have q : KE G (fun _ _ _ => False) H ι S.length (outR (D.m (clAt (tbOf defs) (k0 + 1) (clo (semT (tbOf defs) k0).c)) (.cl :: List.replicate (D.N.length - 1) .un) S)) (RV G) Q := by
        have q : KE G (fun _ _ _ => False) H ι S.length (stepL (tbOf defs) (semT (tbOf defs) (k0 + 1)) j clo S) (RV G) Q := hq
        unfold stepL at q
        rw [tbj] at q
        simp only [semT, hps] at q
        exact fin_ok q
      have o := cx_oks (zo := some z) (act := clo (semT (tbOf defs) k0).c) (outer := outer) (H := H) (E := fun _ _ _ => False) hW hD (fun _ => ⟨oc, od, _, osl, lk, rfl⟩) (ih (k0 + 1) (by omega)) hr fun pn xe W' a' p1 p2 t hN => by
        rw [h0] at hN
        cases hN
        exact hact pn xe W' p1 p2 _ rfl t
      exact ⟨_, cBody_ok o (hW.ok j D hD).cm, ι, _, S, start_cl (by rw [List.length_map]) hnn hz hc0, sr, out_ok q⟩
end
end Mi

set_option Elab.async false
set_option linter.all false
set_option maxRecDepth 100000
set_option maxHeartbeats 2000000
namespace Mi
open PySem PySem.Spec PyProof.Rows L2

/-! ### facts of the written part, told by a Bool -/
def bltN : Nat → Nm
  | 0 => [108, 101, 110]
  | 1 => [97, 98, 115]
  | 2 => [103, 99, 100]
  | 3 => [109, 97, 120]
  | 4 => [109, 105, 110]
  | 5 => [115, 117, 109]
  | 6 => [97, 108, 108]
  | 7 => [97, 110, 121]
  | 8 => [105, 115, 105, 110, 115, 116, 97, 110, 99, 101]
  | 9 => [114, 97, 110, 103, 101]
  | 10 => [101, 110, 117, 109, 101, 114, 97, 116, 101]
  | _ => [122, 105, 112]
def tyNm : Nat → Nm
  | 0 => [105, 110, 116]
  | 1 => [98, 111, 111, 108]
  | 2 => [115, 116, 114]
  | 3 => [116, 117, 112, 108, 101]
  | _ => [108, 105, 115, 116]
theorem blt_boot : ∀ b, b < 9 → b ≠ 2 → bootBuiltins (mkS (bltN b)) = some (.builtin (bltS b)) ∧ mkS (bltN b) ≠ "__name__" ∧ (mkS (bltN b) == ("__debug__" : Str)) = false := by decide +kernel
theorem it_boot : ∀ b, b < 12 → 9 ≤ b → mkS (bltN b) = Str.ofString (itS b) := by decide +kernel
theorem ty_boot : ∀ t, t < 5 → bootBuiltins (mkS (tyNm t)) = some (.type (tyS t)) ∧ mkS (tyNm t) ≠ "__name__" ∧ (mkS (tyNm t) == ("__debug__" : Str)) = false := by decide +kernel
theorem gcd_db : (mkS (bltN 2) == ("__debug__" : Str)) = false := by decide +kernel
def isTupV (v : Value) : Bool := decide (v = .type "tuple")
def ctAll (f : PV → Value → Bool) : List PV → List Value → Bool
  | [], [] => true
  | x :: xs, u :: us => f x u && ctAll f xs us
  | _, _ => false
def ctB (K : PySem.W.Frag) : Nat → PV → Value → Bool
  | _, .int i, .int j _ => decide (i = j)
  | _, .bl b, .bool c => b == c
  | _, .non, .none => true
  | _, .str l, .str y _ => eqN (nmOf y) l
  | n + 1, .tup xs, .ref a => match K.lookup a with
    | some o => match o.data with
      | .seq its m => isTupV o.cls && Nat.ble its.size 1000 && ctAll (ctB K n) xs its.toList
      | _ => false
    | none => false
  | _, _, _ => false
theorem ctB_ok {K : PySem.W.Frag} : ∀ (n : Nat) (v : PV) (u : Value), ctB K n v u = true → ∃ y, RelV y u ∧ ∀ (ga : Nat → Addr) (H : Hp) (ι : Nat → Addr) (m : Nat), Rep K ga H ι m v y := by
  have fin : ∀ (f : PV → Value → Bool), (∀ v u, f v u = true → ∃ y, RelV y u ∧ ∀ (ga : Nat → Addr) (H : Hp) (ι : Nat → Addr) (m : Nat), Rep K ga H ι m v y) → ∀ (xs : List PV) (us : List Value), ctAll f xs us = true → ∃ ys, Vals ys us ∧ ∀ (ga : Nat → Addr) (H : Hp) (ι : Nat → Addr) (m : Nat), Reps K ga H ι m xs ys := by
    intro f hf xs
    induction xs with
    | nil => intro us h; cases us with
      | nil => exact ⟨[], .nil, fun _ _ _ _ => .nil⟩
      | cons u us => cases h
    | cons x xs ih => intro us h; cases us with
      | nil => cases h
      | cons u us =>
        simp only [ctAll, Bool.and_eq_true] at h
        obtain ⟨y, h1, h2⟩ := hf x u h.1
        obtain ⟨ys, h3, h4⟩ := ih us h.2
        exact ⟨y :: ys, .cons h1 h3, fun ga H ι m => .cons (h2 ga H ι m) (h4 ga H ι m)⟩
  intro n
  induction n with
  | zero =>
    intro v u h
    unfold ctB at h
    split at h
    · exact ⟨.int _, ⟨_, rfl⟩, fun _ _ _ _ => rep_int.mpr (by rw [of_decide_eq_true h])⟩
    · exact ⟨.bl _, rfl, fun _ _ _ _ => rep_bl.mpr (by rw [eq_of_beq h])⟩
    · exact ⟨.non, rfl, fun _ _ _ _ => rep_non.mpr rfl⟩
    · rename_i l y t
      exact ⟨.str y, ⟨_, rfl⟩, fun _ _ _ _ => rep_str.mpr (by rw [← eqN_iff.mp h]; exact congrArg V.str (mk_nm y).symm)⟩
    · rename_i e; cases e
    · cases h
  | succ n ih =>
    intro v u h
    unfold ctB at h
    split at h
    · exact ⟨.int _, ⟨_, rfl⟩, fun _ _ _ _ => rep_int.mpr (by rw [of_decide_eq_true h])⟩
    · exact ⟨.bl _, rfl, fun _ _ _ _ => rep_bl.mpr (by rw [eq_of_beq h])⟩
    · exact ⟨.non, rfl, fun _ _ _ _ => rep_non.mpr rfl⟩
    · rename_i l y t
      exact ⟨.str y, ⟨_, rfl⟩, fun _ _ _ _ => rep_str.mpr (by rw [← eqN_iff.mp h]; exact congrArg V.str (mk_nm y).symm)⟩
    · rename_i n' xs a e
      cases e
      split at h
      · rename_i o ho
        split at h
        · rename_i its m hd
          simp only [Bool.and_eq_true] at h
          obtain ⟨⟨h1, h2⟩, h3⟩ := h
          obtain ⟨ys, h4, h5⟩ := fin (ctB K n) ih xs its.toList h3
          refine ⟨.ref a, rfl, fun ga H ι k => ?_⟩
          simp only [Rep]
          exact ⟨a, ys, rfl, .inr ⟨o, its, m, ho, of_decide_eq_true h1, hd, by rw [sizeLine_eq]; have := Nat.le_of_ble_eq_true h2; omega, h4⟩, h5 ga H ι k⟩
        · cases h
      · cases h
    · cases h
def gvB (K : PySem.W.Frag) (names : List Str) (x : Nm) : GV → Bool
  | .fn j => He.eqO (PySem.W.nsIn K mainGlobals (mkS x)) (some (some (.ref (He.ga K (names.getD j ""))))) && plainN x
  | .exc c => He.eqO (PySem.W.nsIn K mainGlobals (mkS x)) (some (some (.ref (He.ga K (names.getD c ""))))) && plainN x && PySem.W.keepIn K (.ref (He.ga K (names.getD c ""))) && PySem.W.excIn K (He.ga K (names.getD c "")) He.veBase "ValueError.__new__" &&
      decide (PySem.W.subIn K (.ref (He.ga K (names.getD c ""))) (.type "BaseException") = some true) && decide (PySem.W.typeIn K (.ref (He.ga K (names.getD c ""))) = some (.type "type"))
  | .bl b => match Nat.beq b 2 with
    | true => eqN x (bltN 2) && He.eqO (PySem.W.nsIn K mainGlobals (mkS x)) (some (some (.builtin "math.gcd")))
    | false => Nat.blt b 12 && eqN x (bltN b) && He.eqO (PySem.W.nsIn K mainGlobals (mkS x)) (some none)
  | .ci i => plainN x && match PySem.W.nsIn K mainGlobals (mkS x) with
    | some (some (.int j _)) => decide (j = i)
    | _ => false
  | .cs l => plainN x && match PySem.W.nsIn K mainGlobals (mkS x) with
    | some (some (.str y _)) => eqN (nmOf y) l
    | _ => false
  | .ct v => plainN x && match PySem.W.nsIn K mainGlobals (mkS x) with
    | some (some u) => ctB K 8 v u
    | _ => false
  | .ty t => Nat.blt t 5 && eqN x (tyNm t) && He.eqO (PySem.W.nsIn K mainGlobals (mkS x)) (some none)
def gOf (K : PySem.W.Frag) (names tf : List Str) : Gc := ⟨K, fun j => He.ga K (names.getD j ""), tf.map fun x => ((He.cT K (x, none)).2, x ++ ".<locals>." ++ "<lambda>")⟩
theorem plain_mk {x : Nm} (h : plainN x = true) : (mkS x == ("__debug__" : Str)) = false := (plain_db (x := mkS x) (by rw [nm_mk]; exact h)).1
theorem gvB_ok {K : PySem.W.Frag} {names tf : List Str} {h : Heap} {mg : Str → Option Value} (X : K.In h) (g : h.Ns mainGlobals mg) {x : Nm} {v : GV} (e : gvB K names x v = true) : GvOk (gOf K names tf) mg x v := by
  cases v with
  | fn j =>
    simp only [gvB, Bool.and_eq_true] at e
    exact ⟨PySem.W.mg_of X g (He.eqO_ok e.1), plain_mk e.2⟩
  | exc c =>
    simp only [gvB, Bool.and_eq_true, decide_eq_true_eq] at e
    obtain ⟨⟨⟨⟨⟨e1, e2⟩, e3⟩, e4⟩, e5⟩, e6⟩ := e
    exact ⟨PySem.W.mg_of X g (He.eqO_ok e1), plain_mk e2, e3, _, _, _, _, PySem.F.excBase_ValueError, e4, e5, e6⟩
  | bl b =>
    simp only [gvB] at e
    split at e
    · rename_i hb
      have hb : b = 2 := Nat.eq_of_beq_eq_true hb
      subst hb
      simp only [Bool.and_eq_true] at e
      rw [eqN_iff.mp e.1]
      have e2 := e.2
      rw [eqN_iff.mp e.1] at e2
      exact .inl ⟨rfl, PySem.W.mg_of X g (He.eqO_ok e2), gcd_db⟩
    · rename_i hb
      simp only [Bool.and_eq_true] at e
      obtain ⟨⟨e1, e2⟩, e3⟩ := e
      have e1 : b < 12 := by simpa [Nat.blt_eq] using e1
      have hx := eqN_iff.mp e2
      subst hx
      have e3 := PySem.W.mg_none_of X g (He.eqO_ok e3)
      by_cases h9 : b < 9
      · have hb2 : b ≠ 2 := fun z => by rw [z] at hb; cases hb
        obtain ⟨q1, q2, q3⟩ := blt_boot b h9 hb2
        exact .inr (.inl ⟨hb2, h9, e3, q1, q2, q3⟩)
      · have q := it_boot b e1 (by omega)
        exact .inr (.inr ⟨by omega, q, by rw [← q]; exact e3⟩)
  | ci i =>
    simp only [gvB, Bool.and_eq_true] at e
    refine ⟨?_, plain_mk e.1⟩
    have e2 := e.2
    split at e2
    · rename_i j t q
      exact ⟨_, PySem.W.mg_of X g q, t, by rw [of_decide_eq_true e2]⟩
    · cases e2
  | cs l =>
    simp only [gvB, Bool.and_eq_true] at e
    refine ⟨?_, plain_mk e.1⟩
    have e2 := e.2
    split at e2
    · rename_i y t q
      exact ⟨_, PySem.W.mg_of X g q, t, by rw [← eqN_iff.mp e2, mk_nm]⟩
    · cases e2
  | ct v =>
    simp only [gvB, Bool.and_eq_true] at e
    refine ⟨?_, plain_mk e.1⟩
    have e2 := e.2
    split at e2
    · rename_i u q
      obtain ⟨y, h1, h2⟩ := ctB_ok 8 v u e2
      exact ⟨u, y, PySem.W.mg_of X g q, h1, fun H ι n => h2 _ H ι n⟩
    · cases e2
  | ty t =>
    simp only [gvB, Bool.and_eq_true] at e
    obtain ⟨⟨e1, e2⟩, e3⟩ := e
    have e1 : t < 5 := by simpa [Nat.blt_eq] using e1
    have hx := eqN_iff.mp e2
    subst hx
    obtain ⟨q1, q2, q3⟩ := ty_boot t e1
    exact ⟨e1, PySem.W.mg_none_of X g (He.eqO_ok e3), q1, q2, q3⟩
theorem lookN_mem {α : Type} : ∀ {l : List (Nm × α)} {x : Nm} {v : α}, lookN l x = some v → (x, v) ∈ l
  | (n, a) :: r, x, v, h => by
    rw [lookN] at h
    cases e : eqN x n with
    | true =>
      rw [e] at h
      cases h
      rw [eqN_iff.mp e]
      exact List.mem_cons_self
    | false =>
      rw [e] at h
      exact List.mem_cons_of_mem _ (lookN_mem h)
def excCB (K : PySem.W.Frag) (D : Addr) : Bool :=
  decide (PySem.W.findIn K (.ref D) "__getattribute__" = some (some (.builtin "BaseException.__getattribute__"))) && decide (PySem.W.findIn K (.ref D) "__getattr__" = some none) && decide (PySem.W.subIn K (.ref D) (.type "BaseException") = some true) && PySem.W.hasDictIn K D &&
  decide (PySem.W.findIn K (.ref D) "__class__" = some (some (.builtin "object.__class__"))) && decide (PySem.W.specialIn K (.builtin "object.__class__") "__get__" = some (some (.builtin "getset_descriptor.__get__"))) && decide (PySem.W.takesIn K (.builtin "object.__class__") = some true) && decide (PySem.W.mroIn K D (.type "object") = some true)
theorem excCB_ok {K : PySem.W.Frag} {D : Addr} (h : excCB K D = true) : ExcC K D := by
  simp only [excCB, Bool.and_eq_true, decide_eq_true_eq] at h
  obtain ⟨⟨⟨⟨⟨⟨⟨h1, h2⟩, h3⟩, h4⟩, h5⟩, h6⟩, h7⟩, h8⟩ := h
  exact ⟨h1, h2, h3, h4, h5, h6, h7, h8⟩
/-- which of two classes is which: d, c, whether d is a c -/
def subF (sl : List (Nat × Nat × Bool)) (d c : Nat) : Option Bool := match sl.find? fun p => Nat.beq p.1 d && Nat.beq p.2.1 c with
  | some p => some p.2.2
  | none => none
def subB (K : PySem.W.Frag) (names : List Str) (sl : List (Nat × Nat × Bool)) : Bool := sl.all fun p =>
  decide (PySem.W.kitOne K (.ref (He.ga K (names.getD p.1 ""))) (.ref (He.ga K (names.getD p.2.1 ""))) = some p.2.2) && decide (PySem.W.exmOne K (.ref (He.ga K (names.getD p.1 ""))) (.ref (He.ga K (names.getD p.2.1 ""))) = some p.2.2) && excCB K (He.ga K (names.getD p.1 ""))
def nodB : List Nat → Bool
  | [] => true
  | a :: l => !(l.any fun b => Nat.beq a b) && nodB l
/-- all that is told of the written part -/
def exB (names tf : List Str) (gl : List (Nm × GV)) (sl : List (Nat × Nat × Bool)) (K : PySem.W.Frag) : Bool := (gl.all fun p => gvB K names p.1 p.2) && subB K names sl && nodB (tf.map fun x => (He.cT K (x, none)).2)
def Df.d (D : Df) : He.DefD := ⟨(D.nm, none), D.nm, D.nm, defArgs D.st, defBody D.st, defScope D.st, [], []⟩
def glOf (gl : List (Nm × GV)) (sl : List (Nat × Nat × Bool)) (nf : Nat) (ls : List Nat) : Gl := ⟨gl, fun j => Nat.blt j nf, fun j => memN ls j, subF sl⟩
theorem nod_inj : ∀ {l : List Str} {f : Str → Nat} {x y : Str}, nodB (l.map f) = true → x ∈ l → y ∈ l → f x = f y → x = y
  | a :: l, f, x, y, h, hx, hy, e => by
    simp only [List.map_cons, nodB, Bool.and_eq_true, Bool.not_eq_true'] at h
    have no : ∀ z ∈ l, f z ≠ f a := fun z hz q => by
      have := h.1
      rw [List.any_eq_false] at this
      exact this (f z) (List.mem_map.mpr ⟨z, hz, rfl⟩) (by rw [q]; exact Nat.beq_refl _)
    rcases List.mem_cons.mp hx with e1 | e1 <;> rcases List.mem_cons.mp hy with e2 | e2
    · rw [e1, e2]
    · exact absurd (by rw [← e, e1]) (no y e2)
    · exact absurd (by rw [e, e2]) (no x e1)
    · exact nod_inj h.2 e1 e2 e
theorem wd_of {K : PySem.W.Frag} {base : Heap} {mg : Str → Option Value} {defs : List Df} {names tf : List Str} {gl : List (Nm × GV)} {sl : List (Nat × Nat × Bool)} {nf : Nat} {ls : List Nat} {fa : List He.Fa} (X : K.In base) (g : base.Ns mainGlobals mg)
    (hok : ∀ D ∈ defs, DfOk (glOf gl sl nf ls) D) (hn : nf = defs.length) (hnm : ∀ (j : Nat) (D : Df), defs[j]? = some D → names.getD j "" = D.nm) (hex : exB names tf gl sl K = true) (hd : He.SaysD fa (defs.map Df.d) K)
    (hls : ∀ j ∈ ls, ∃ (D : Df) (a : Str), defs[j]? = some D ∧ D.ps = [a] ∧ (a == ("__debug__" : Str)) = false ∧ (a == ("__classdict__" : Str)) = false) (htf : ∀ D ∈ defs, D.lam = true → D.nm ∈ tf) (TB : ∀ x ∈ tf, LamX.TabB base mg (He.cT K (x, none)).1 (He.cT K (x, none)).2) :
    Wd (gOf K names tf) mg base (glOf gl sl nf ls) defs where
  ok := fun j D h => hok D (List.mem_of_getElem? h)
  gl := fun x v h => by
    simp only [exB, Bool.and_eq_true] at hex
    exact gvB_ok X g (List.all_eq_true.mp hex.1.1 (x, v) (lookN_mem h))
  sub := fun d c b h => by
    simp only [exB, Bool.and_eq_true] at hex
    have hs := hex.1.2
    have h : subF sl d c = some b := h
    unfold subF at h
    split at h
    · rename_i p hp
      cases h
      have hm := List.mem_of_find?_eq_some hp
      have he := List.find?_some hp
      simp only [Bool.and_eq_true] at he
      have e1 : p.1 = d := Nat.eq_of_beq_eq_true he.1
      have e2 : p.2.1 = c := Nat.eq_of_beq_eq_true he.2
      have z := List.all_eq_true.mp hs p hm
      simp only [Bool.and_eq_true, decide_eq_true_eq] at z
      rw [e1, e2] at z
      exact ⟨z.1.1, z.1.2, excCB_ok z.2⟩
    · cases h
  fn := fun j D h => by
    obtain ⟨fd, F⟩ := hd.def_ j (d := D.d) (by rw [List.getElem?_map, h]; rfl)
    refine ⟨fd, ?_⟩
    have e : (gOf K names tf).ga j = He.fAd K D.d.at_ := by
      show He.ga K (names.getD j "") = He.ga K D.nm
      rw [hnm j D h]
    rw [e]
    exact F
  isF := fun j h => by
    have h : Nat.blt j nf = true := h
    have h : j < nf := by simpa [Nat.blt_eq] using h
    rw [hn] at h
    exact ⟨_, List.getElem?_eq_getElem h⟩
  isL := fun j h => hls j (memN_ok h)
  tb := fun j D h hl => by
    have hm := htf D (List.mem_of_getElem? h) hl
    refine ⟨_, _, fun oc od fd osl lk => ?_, TB D.nm hm, List.mem_map.mpr ⟨D.nm, hm, rfl⟩, fun p hp e => ?_⟩
    · obtain ⟨fd', F⟩ := hd.def_ j (d := D.d) (by rw [List.getElem?_map, h]; rfl)
      obtain ⟨oc', od', dV, kV, doc, pm, an, cdv, ct, osl', e1, lk', hcd, _, _⟩ := F.ex
      have e : (gOf K names tf).ga j = He.fAd K (D.nm, none) := by
        show He.ga K (names.getD j "") = He.ga K D.nm
        rw [hnm j D h]
      rw [e] at lk
      have lk'' : K.lookup (He.fAd K (D.nm, none)) = some ⟨oc', od', .func fd', osl'⟩ := lk'
      have lk2 : K.lookup (He.fAd K (D.nm, none)) = some ⟨oc, od, .func fd, osl⟩ := lk
      rw [lk2] at lk''
      cases lk''
      obtain ⟨c, hc⟩ := He.codeIn_ref hcd
      have hc2 : fd.code = .ref c := by rw [e1]; exact hc
      rw [hc2]
      congr 1
      exact (He.codeOf_eq lk2 hc2).symm
    · obtain ⟨x, hx, rfl⟩ := List.mem_map.mp hp
      simp only [exB, Bool.and_eq_true] at hex
      have := nod_inj (f := fun x => (He.cT K (x, none)).2) hex.2 hx hm e
      rw [this]
end Mi

set_option Elab.async false
set_option linter.all false
set_option maxRecDepth 100000
set_option maxHeartbeats 2000000
namespace Mi
open PySem PySem.Spec PyProof.Rows L2

/-! ### the law's end -/
def spLk (sp : Sp) : Sp := fun vs H Q E => (∀ c d H', ¬ E c d H') ∧ (sp vs H Q E ∨ ∃ a xs, H a = some (.lst xs) ∧ ∀ o, sp vs (upd H a (.frz o (.lst xs))) Q E)
theorem fn_lock {P : Program} {w : World} {K : PySem.W.Frag} {mg : Str → Option Value} {base : Heap} {k : Nat} {f : Addr} {fd : FuncData} {ps : List Str} {sp : Sp} (F : FnOk P w K mg base (L2N.CX P w) k f fd ps sp) : FnOk P w K mg base (L2N.CX P w) k f fd ps (spLk sp) := by
  refine ⟨fun vs H Q E h => ?_, fun A outer s H args us vs Q E hr e0 hb hv h => ?_⟩
  · rcases h.2 with h | ⟨a, xs, _, h⟩
    · exact F.len vs H Q E h
    · exact F.len vs _ Q E (h ⟨.none, none, .cell none, #[]⟩)
  · rcases h.2 with q | ⟨a, xs, ha, q⟩
    · exact F.run A outer s H args us vs Q E hr e0 hb hv q
    · obtain ⟨z, its, n, rv, eo⟩ := e0.hok a _ ha
      have q := q { cls := .type "list", data := .seq its.toArray n }
      have ne : ∀ b u, H b = some u → (∀ ys, u ≠ .lst ys) → b ≠ a := fun b u hb hn e => by
        rw [e, ha] at hb
        cases hb
        exact hn xs rfl
      have hok : HOk P w (upd H a (.frz { cls := .type "list", data := .seq its.toArray n } (.lst xs))) s.heap := fun b o hbo => by
        by_cases hba : b = a
        · subst hba
          rw [upd_same] at hbo
          cases hbo
          exact ⟨eo, z, its, n, rv, eo⟩
        · rw [upd_ne hba] at hbo
          exact (e0.hok b o hbo).stay (fun c v _ q => q) (fun c hc => by rw [upd_ne (ne c _ hc (fun ys z => by cases z))]; exact hc) fun c ys hc => by rw [upd_ne (ne c _ hc (fun ys z => by cases z))]; exact hc
      have non : ∀ b, H b = none → upd H a (.frz { cls := .type "list", data := .seq its.toArray n } (.lst xs)) b = none := fun b hb => by
        rw [upd_ne (fun e => by rw [e, ha] at hb; cases hb)]
        exact hb
      refine codeAny_mono (F.run A outer s _ args us vs Q E hr ⟨e0.frames, e0.mod, fun b o hbo => ⟨(e0.bs b o hbo).1, non b (e0.bs b o hbo).2⟩, e0.bsz, e0.funs, fun b hb => non b (e0.frf b hb), hok, e0.bare⟩ hb hv q) fun r s' hq => ?_
      cases r with
      | error e =>
        obtain ⟨_, _, _, _, _, _, _, _, _, _, _, _, z⟩ := hq
        exact absurd z (h.1 _ _ _)
      | ok fl =>
        cases fl with
        | ret u =>
          obtain ⟨v, H', os, bare, un, hok', r', qq⟩ := hq
          refine ⟨v, H', os, bare, ⟨fun b o hbo hn => un.keep b o hbo (non b hn), fun b o hbo hn => un.slot b o hbo (non b hn), fun b o hbo hn => un.free b o hbo (non b hn), un.there, fun b ys hbo => un.tups b ys ?_, fun b o u hbo => un.frzs b o u ?_, fun b ps hbo => un.tbls b ps ?_⟩, hok', r', qq⟩
          · rw [upd_ne (ne b _ hbo (fun ys z => by cases z))]; exact hbo
          · rw [upd_ne (ne b _ hbo (fun ys z => by cases z))]; exact hbo
          · rw [upd_ne (ne b _ hbo (fun ys z => by cases z))]; exact hbo
        | _ => exact hq
theorem reps_ints {K : PySem.W.Frag} {ga : Nat → Addr} {H : Hp} {ι : Nat → Addr} {n : Nat} : ∀ ns : List Int, Reps K ga H ι n (ns.map PV.int) (ns.map V.int)
  | [] => .nil
  | i :: ns => .cons (rep_int.mpr rfl) (reps_ints ns)
/-- what the end wants of the law's def -/
theorem law_sp {K : PySem.W.Frag} {names tf : List Str} {c : Call} {jl : Nat} {n : Nat} {cs : List (Addr × Addr)} (hT : ∀ x ∈ tf, ∃ p ∈ cs, p.2 = (He.cT K (x, none)).2) (hs : ∀ ns : List Int, ns.length ≤ n → (∀ z ∈ ns, Builtin.Int.intBits z ≤ 1048576) → ∃ S', c jl [.fl (ns.map .int)] [] = .ok (.bl true) S')
    (H : Hp) (a : Addr) (ns : List Int) (hl : ns.length ≤ n) (hb : ∀ z ∈ ns, Builtin.Int.intBits z ≤ 1048576) (ht : ∀ p ∈ cs, H p.2 = some (.tbl #[])) (hq : SqL K H a (ns.map V.int)) : spLk (spF (gOf K names tf) c jl) [.ref a] H (fun v _ => v = .bl true) fun _ _ _ => False := by
  refine ⟨fun _ _ _ z => z, ?_⟩
  have fin : ∀ H' : Hp, (∀ p ∈ cs, H' p.2 = some (.tbl #[])) → ((∃ o, H' a = some (.frz o (.lst (ns.map V.int)))) ∨ ∃ (o : Obj) (its : Array Value) (m : Nat), K.lookup a = some o ∧ o.cls = .type "list" ∧ o.dict = none ∧ o.data = .seq its m ∧ its.size ≤ sizeLine ∧ Vals (ns.map V.int) its.toList) →
      spF (gOf K names tf) c jl [.ref a] H' (fun v _ => v = .bl true) fun _ _ _ => False := fun H' ht h => by
    refine ⟨fun _ => 0, [], [.fl (ns.map .int)], ⟨fun i j hi => absurd hi (Nat.not_lt_zero _), fun i xs e => (nomatch e), fun p hp => ?_⟩, .cons ?_ .nil, ?_⟩
    · obtain ⟨x, hx, rfl⟩ := List.mem_map.mp hp
      obtain ⟨q, hq, e⟩ := hT x hx
      exact LamX.TabS.nil (by rw [← e]; exact ht q hq)
    · simp only [Rep]
      exact ⟨a, _, rfl, h, reps_ints ns⟩
    · obtain ⟨S', e⟩ := hs ns hl hb
      rw [e]
      exact fun x H1 ι1 _ _ r => rep_bl.mp r
  rcases hq with (h | h) | h
  · refine .inr ⟨a, _, h, fun o => fin _ (fun p hp => ?_) (.inl ⟨o, upd_same⟩)⟩
    rw [upd_ne (fun e => by
      have := ht p hp
      rw [e, h] at this
      cases this)]
    exact ht p hp
  · exact .inl (fin H ht (.inl h))
  · exact .inl (fin H ht (.inr h))
theorem law_at {l : PySem.W.OpenLaw} {w : World} {K : PySem.W.Frag} {mg : Str → Option Value} {fa : Addr} {h : Heap} {n k : Nat} {x : Str} {defs : List Df} {names tf : List Str} {gl : List (Nm × GV)} {sl : List (Nat × Nat × Bool)} {nf : Nat} {ls : List Nat} {fs : List He.Fa} {ts : List He.Tab} {jl : Nat} {D : Df}
    (X : K.In h) (g : h.Ns mainGlobals mg) (c : He.SaysX fs (defs.map Df.d) ts (tf.map fun x => (x, none)) (exB names tf gl sl) w h K) (hfa : mg D.nm = some (.ref fa)) (hok : ∀ D ∈ defs, DfOk (glOf gl sl nf ls) D) (hn : nf = defs.length) (hnm : ∀ (j : Nat) (D : Df), defs[j]? = some D → names.getD j "" = D.nm)
    (hls : ∀ j ∈ ls, ∃ (D : Df) (a : Str), defs[j]? = some D ∧ D.ps = [a] ∧ (a == ("__debug__" : Str)) = false ∧ (a == ("__classdict__" : Str)) = false) (htf : ∀ D ∈ defs, D.lam = true → D.nm ∈ tf) (hD : defs[jl]? = some D) (hps : D.ps = [x]) (hgl : lookN gl (nmOf D.nm) = some (.fn jl))
    (hs : ∀ ns : List Int, ns.length ≤ n → (∀ z ∈ ns, Builtin.Int.intBits z ≤ 1048576) → ∃ S', (semT (tbOf defs) k).c jl [.fl (ns.map .int)] [] = .ok (.bl true) S') : LamX.LawAtS l w K (L2N.CX l.prog w) k n x mg fa h := by
  have hjl : jl < nf := by rw [hn]; exact (List.getElem?_eq_some_iff.mp hD).1
  have hga : (gOf K names tf).ga jl = fa := by
    have e : gvB K names (nmOf D.nm) (.fn jl) = true := by
      have := c.more
      simp only [exB, Bool.and_eq_true] at this
      exact List.all_eq_true.mp this.1.1 _ (lookN_mem hgl)
    have q := (gvB_ok (tf := tf) X g e).1
    rw [mk_nm, hfa] at q
    cases q
    rfl
  obtain ⟨fd, F⟩ := c.t.d.def_ jl (d := D.d) (by rw [List.getElem?_map, hD]; rfl)
  have hbd := hok D (List.mem_of_getElem? hD)
  have bA := FunD.bindsA (ps := D.ps) F hbd.bd
  rw [hps] at bA
  have fAde : He.fAd K D.d.at_ = fa := by rw [← hga]; show He.ga K D.nm = He.ga K (names.getD jl ""); rw [hnm jl D hD]
  refine ⟨fd, tf.map fun x => He.cT K (x, none), spLk (spF (gOf K names tf) (semT (tbOf defs) k).c jl), fun p hp => ?_, fun p hp => ?_, fun p hp => ?_, fun s u => bA s [u] rfl, fun H a ns hl hb ht hq => law_sp (fun x hx => ⟨_, List.mem_map.mpr ⟨x, hx, rfl⟩, rfl⟩) hs H a ns hl hb ht hq, fun base Xb gb TB => ?_⟩
  · obtain ⟨y, hy, rfl⟩ := List.mem_map.mp hp
    exact c.empty (y, none) (List.mem_map.mpr ⟨y, hy, rfl⟩)
  · obtain ⟨y, hy, rfl⟩ := List.mem_map.mp hp
    exact c.out (y, none) (List.mem_map.mpr ⟨y, hy, rfl⟩)
  · obtain ⟨y, hy, rfl⟩ := List.mem_map.mp hp
    exact PySem.W.codeHd_of_K X (c.hd (y, none) (List.mem_map.mpr ⟨y, hy, rfl⟩))
  · have W := wd_of (tf := tf) Xb gb hok hn hnm c.more c.t.d hls htf fun x hx => TB _ (List.mem_map.mpr ⟨x, hx, rfl⟩)
    have e : He.fAd K D.d.at_ = (gOf K names tf).ga jl := fAde.trans hga.symm
    have F1 := (known (P := l.prog) (w := w) W k).fn2 jl D fd hD (by rw [← e]; exact F)
    rw [hga, hps] at F1
    exact fn_lock F1
/-- an exception leaves no law -/
theorem no_exc (P : Program) (w : World) (H : Hp) (s : Shared) (e : Value) (s' : Shared) (h : L2N.CX P w [] H s (fun _ _ _ => False) e s') : False := by
  obtain ⟨_, _, _, _, _, _, _, _, _, _, _, _, z⟩ := h
  exact z
theorem ok_nil {g : Gl} : ∀ D ∈ ([] : List Df), DfOk g D := fun D h => by cases h
theorem ok_cons {g : Gl} {D : Df} {l : List Df} (h : DfOk g D) (t : ∀ D ∈ l, DfOk g D) : ∀ E ∈ D :: l, DfOk g E := fun E hE => by
  rcases List.mem_cons.mp hE with e | e
  · rw [e]; exact h
  · exact t E e
def nmB : List Df → List Str → Bool
  | [], _ => true
  | D :: ds, n :: ns => eqN (nmOf D.nm) (nmOf n) && nmB ds ns
  | _ :: _, [] => false
theorem nmB_ok : ∀ {ds : List Df} {ns : List Str}, nmB ds ns = true → ∀ (j : Nat) (D : Df), ds[j]? = some D → ns.getD j "" = D.nm
  | D :: ds, n :: ns, h, 0, D', e => by
    simp only [nmB, Bool.and_eq_true] at h
    cases e
    exact (nm_inj (eqN_iff.mp h.1)).symm
  | D :: ds, n :: ns, h, j + 1, D', e => by
    simp only [nmB, Bool.and_eq_true] at h
    exact nmB_ok h.2 j D' e
def tfB (ds : List Df) (tf : List Str) : Bool := ds.all fun D => !D.lam || tf.any fun x => eqN (nmOf x) (nmOf D.nm)
theorem tfB_ok {ds : List Df} {tf : List Str} (h : tfB ds tf = true) : ∀ D ∈ ds, D.lam = true → D.nm ∈ tf := fun D hD hl => by
  have z := List.all_eq_true.mp h D hD
  rw [hl] at z
  obtain ⟨x, hx, e⟩ := List.any_eq_true.mp (by simpa using z)
  rw [← nm_inj (eqN_iff.mp e)]
  exact hx
end Mi

set_option Elab.async false
set_option linter.all false
set_option maxRecDepth 100000
set_option maxHeartbeats 2000000
namespace Mi
open PySem PySem.Spec PyProof.Rows L2

/-! ### what an expression answers at every store that goes on from S -/
theorem cell_pre {S T : Sto} {i : Nat} {xs : List PV} (h : cellL S i = some xs) (p : S <+: T) : cellL T i = some xs := by
  obtain ⟨X, rfl⟩ := p
  have e := cellL_some h
  have hj := (List.getElem?_eq_some_iff.mp e).1
  unfold cellL
  rw [List.getElem?_append_left hj, e]
theorem cell_end {S : Sto} {xs : List PV} : cellL (S ++ [.lst xs]) S.length = some xs := by
  unfold cellL
  rw [List.getElem?_append_right (Nat.le_refl _), Nat.sub_self]
  rfl
theorem pre_new {S T : Sto} {c : Cell} (p : S <+: T) : S <+: T ++ [c] := p.trans (List.prefix_append _ _)
theorem take_pre {S T : Sto} (p : S <+: T) : T.take S.length = S := by
  obtain ⟨X, rfl⟩ := p
  exact List.take_left' rfl
theorem fin_pre {S T : Sto} {v : PV} (p : S <+: T) (b : below S.length v = true) : fin S.length (.ok v T) = .ok v S := by
  show (match below S.length v with | true => _ | false => _) = _
  rw [b]
  show Res.ok v (T.take S.length) = _
  rw [take_pre p]
theorem fin_preL {S T : Sto} {i : Nat} {xs : List PV} (p : S <+: T) (hi : S.length ≤ i) (hc : cellL T i = some xs) (b : belows S.length xs = true) : fin S.length (.ok (.lst i) T) = .ok (.lst S.length) (S ++ [.lst xs]) := by
  unfold fin
  dsimp only
  have e : below S.length (.lst i) = false := by
    simp only [below]
    exact Bool.eq_false_iff.mpr fun h => by have : i < S.length := by simpa [Nat.blt_eq] using h
                                            omega
  rw [e]
  dsimp only
  rw [hc]
  dsimp only
  rw [b, take_pre p]
theorem fin_preX {S T : Sto} {c : Nat} (p : S <+: T) : fin S.length (.exc c none T) = .exc c none S := by
  show Res.exc c none (T.take S.length) = _
  rw [take_pre p]
def E (m : ME) (cl : Cl) (env : Env) (S : Sto) (v : PV) : Prop := ∀ T, S <+: T → ∃ T', m cl env T = .ok v T' ∧ T <+: T'
def EL (m : ME) (cl : Cl) (env : Env) (S : Sto) (xs : List PV) : Prop := ∀ T, S <+: T → ∃ T' i, m cl env T = .ok (.lst i) T' ∧ T <+: T' ∧ cellL T' i = some xs
def EA (m : MA) (cl : Cl) (env : Env) (S : Sto) (vs : List PV) : Prop := ∀ T, S <+: T → ∃ T', m cl env T = .ok vs T' ∧ T <+: T'
def EB (m : MB) (cl : Cl) (env : Env) (S : Sto) (b : Bool) : Prop := ∀ T, S <+: T → ∃ T', m cl env T = .ok b T' ∧ T <+: T'
section
variable {cl : Cl} {env : Env} {S : Sto}
theorem E.at {m : ME} {v : PV} (h : E m cl env S v) : ∃ T, m cl env S = .ok v T ∧ S <+: T := h S List.prefix_rfl
theorem EL.at {m : ME} {xs : List PV} (h : EL m cl env S xs) : ∃ T i, m cl env S = .ok (.lst i) T ∧ S <+: T ∧ cellL T i = some xs := h S List.prefix_rfl
theorem EB.at {m : MB} {b : Bool} (h : EB m cl env S b) : ∃ T, m cl env S = .ok b T ∧ S <+: T := h S List.prefix_rfl
theorem EA.at {m : MA} {b : List PV} (h : EA m cl env S b) : ∃ T, m cl env S = .ok b T ∧ S <+: T := h S List.prefix_rfl
theorem E.up {m : ME} {v : PV} {T : Sto} (h : E m cl env S v) (p : S <+: T) : E m cl env T v := fun U q => h U (p.trans q)
theorem EL.up {m : ME} {xs : List PV} {T : Sto} (h : EL m cl env S xs) (p : S <+: T) : EL m cl env T xs := fun U q => h U (p.trans q)
theorem E.cast {m : ME} {v w : PV} (h : E m cl env S v) (e : v = w) : E m cl env S w := e ▸ h
theorem EB.cast {m : MB} {v w : Bool} (h : EB m cl env S v) (e : v = w) : EB m cl env S w := e ▸ h
theorem EL.cast {m : ME} {v w : List PV} (h : EL m cl env S v) (e : v = w) : EL m cl env S w := e ▸ h
theorem e_c {v : PV} : E (mC v) cl env S v := fun T p => ⟨T, rfl, List.prefix_rfl⟩
theorem e_v {i : Nat} {v : PV} (h : env[i]? = some (.pv v)) : E (mV i) cl env S v := fun T p => ⟨T, by unfold mV; rw [h], List.prefix_rfl⟩
theorem el_v {i j : Nat} {xs : List PV} (h : env[i]? = some (.pv (.lst j))) (hc : cellL S j = some xs) : EL (mV i) cl env S xs := fun T p => ⟨T, j, by unfold mV; rw [h], List.prefix_rfl, cell_pre hc p⟩
theorem e_2 {g : O2} {a b : ME} {v w r : PV} (ha : E a cl env S v) (hb : E b cl env S w) (hg : ∀ T, g v w T = some (r, T)) : E (m2 g a b) cl env S r := fun T p => by
  obtain ⟨T1, h1, p1⟩ := ha T p
  obtain ⟨T2, h2, p2⟩ := hb T1 (p.trans p1)
  refine ⟨T2, ?_, p1.trans p2⟩
  simp only [m2, bnd, h1, h2, hg, ofO]
theorem e_1 {g : O1} {a : ME} {v r : PV} (ha : E a cl env S v) (hg : ∀ T, g v T = some (r, T)) : E (m1 g a) cl env S r := fun T p => by
  obtain ⟨T1, h1, p1⟩ := ha T p
  refine ⟨T1, ?_, p1⟩
  simp only [m1, bnd, h1, hg, ofO]
/-- a list on the left -/
theorem e_2l {g : O2} {a b : ME} {xs : List PV} {w r : PV} (ha : EL a cl env S xs) (hb : E b cl env S w) (hg : ∀ T i, cellL T i = some xs → g (.lst i) w T = some (r, T)) : E (m2 g a b) cl env S r := fun T p => by
  obtain ⟨T1, i, h1, p1, c1⟩ := ha T p
  obtain ⟨T2, h2, p2⟩ := hb T1 (p.trans p1)
  refine ⟨T2, ?_, p1.trans p2⟩
  simp only [m2, bnd, h1, h2, hg T2 i (cell_pre c1 p2), ofO]
/-- a list on the right -/
theorem e_2r {g : O2} {a b : ME} {xs : List PV} {w r : PV} (ha : E a cl env S w) (hb : EL b cl env S xs) (hg : ∀ T i, cellL T i = some xs → g w (.lst i) T = some (r, T)) : E (m2 g a b) cl env S r := fun T p => by
  obtain ⟨T1, h1, p1⟩ := ha T p
  obtain ⟨T2, i, h2, p2, c2⟩ := hb T1 (p.trans p1)
  refine ⟨T2, ?_, p1.trans p2⟩
  simp only [m2, bnd, h1, h2, hg T2 i c2, ofO]
/-- lists on both sides -/
theorem e_2b {g : O2} {a b : ME} {xs ys : List PV} {r : PV} (ha : EL a cl env S xs) (hb : EL b cl env S ys) (hg : ∀ T i j, cellL T i = some xs → cellL T j = some ys → g (.lst i) (.lst j) T = some (r, T)) : E (m2 g a b) cl env S r := fun T p => by
  obtain ⟨T1, i, h1, p1, c1⟩ := ha T p
  obtain ⟨T2, j, h2, p2, c2⟩ := hb T1 (p.trans p1)
  refine ⟨T2, ?_, p1.trans p2⟩
  simp only [m2, bnd, h1, h2, hg T2 i j (cell_pre c1 p2) c2, ofO]
/-- a new list of two -/
theorem el_add {a b : ME} {xs ys : List PV} (ha : EL a cl env S xs) (hb : EL b cl env S ys) (hl : xs.length + ys.length ≤ 16777216) : EL (m2 opAdd a b) cl env S (xs ++ ys) := fun T p => by
  obtain ⟨T1, i, h1, p1, c1⟩ := ha T p
  obtain ⟨T2, j, h2, p2, c2⟩ := hb T1 (p.trans p1)
  refine ⟨T2 ++ [.lst (xs ++ ys)], T2.length, ?_, (p1.trans p2).trans (List.prefix_append _ _), cell_end⟩
  simp only [m2, bnd, h1, h2, opAdd, cell_pre c1 p2, c2, if_pos hl, ofO]
theorem ea_n : EA aN cl env S [] := fun T p => ⟨T, rfl, List.prefix_rfl⟩
theorem ea_c {a : ME} {r : MA} {v : PV} {vs : List PV} (ha : E a cl env S v) (hr : EA r cl env S vs) : EA (aC a r) cl env S (v :: vs) := fun T p => by
  obtain ⟨T1, h1, p1⟩ := ha T p
  obtain ⟨T2, h2, p2⟩ := hr T1 (p.trans p1)
  refine ⟨T2, ?_, p1.trans p2⟩
  simp only [aC, bnd, h1, h2]
theorem e_L {g : OL} {as : MA} {vs : List PV} {r : PV} (ha : EA as cl env S vs) (hg : ∀ T, g vs T = some (r, T)) : E (mL g as) cl env S r := fun T p => by
  obtain ⟨T1, h1, p1⟩ := ha T p
  refine ⟨T1, ?_, p1⟩
  simp only [mL, bnd, h1, hg, ofO]
/-- a built-in of one list -/
theorem e_Ll {g : OL} {a : ME} {xs : List PV} {r : PV} (ha : EL a cl env S xs) (hg : ∀ T i, cellL T i = some xs → g [.lst i] T = some (r, T)) : E (mL g (aC a aN)) cl env S r := fun T p => by
  obtain ⟨T1, i, h1, p1, c1⟩ := ha T p
  refine ⟨T1, ?_, p1⟩
  simp only [mL, aC, aN, bnd, h1, hg T1 i c1, ofO]
theorem e_call {j : Nat} {as : MA} {vs : List PV} {r : PV} (ha : EA as cl env S vs) (hc : ∀ T, S <+: T → cl.call j vs T = .ok r T) : E (mCall j as) cl env S r := fun T p => by
  obtain ⟨T1, h1, p1⟩ := ha T p
  refine ⟨T1, ?_, p1⟩
  simp only [mCall, bnd, h1, hc T1 (p.trans p1)]
/-- a call that gives back a new list -/
theorem el_call {j : Nat} {as : MA} {vs xs : List PV} (ha : EA as cl env S vs) (hc : ∀ T, S <+: T → cl.call j vs T = .ok (.lst T.length) (T ++ [.lst xs])) : EL (mCall j as) cl env S xs := fun T p => by
  obtain ⟨T1, h1, p1⟩ := ha T p
  refine ⟨T1 ++ [.lst xs], T1.length, ?_, pre_new p1, cell_end⟩
  simp only [mCall, bnd, h1, hc T1 (p.trans p1)]
theorem e_tup {as : MA} {vs : List PV} (ha : EA as cl env S vs) : E (mTup as) cl env S (.tup vs) := fun T p => by
  obtain ⟨T1, h1, p1⟩ := ha T p
  refine ⟨T1, ?_, p1⟩
  simp only [mTup, bnd, h1]
theorem el_lst {as : MA} {vs : List PV} (ha : EA as cl env S vs) : EL (mLst as) cl env S vs := fun T p => by
  obtain ⟨T1, h1, p1⟩ := ha T p
  refine ⟨T1 ++ [.lst vs], T1.length, ?_, pre_new p1, cell_end⟩
  simp only [mLst, bnd, h1]
theorem e_sl {a : ME} {lo hi : Option ME} {l h : Option Int} {xs : List PV} (ha : E a cl env S (.tup xs)) (hl : match lo, l with | none, none => True | some m, some i => E m cl env S (.int i) | _, _ => False) (hh : match hi, h with | none, none => True | some m, some i => E m cl env S (.int i) | _, _ => False) :
    E (mSl a lo hi) cl env S (.tup (cutP xs l h)) := fun T p => by
  obtain ⟨T1, h1, p1⟩ := ha T p
  match lo, l, hi, h, hl, hh with
  | none, none, none, none, _, _ => exact ⟨T1, by simp only [mSl, bnd, h1, oSl, ofO], p1⟩
  | some m, some i, none, none, hl, _ =>
    obtain ⟨T2, h2, p2⟩ := hl T1 (p.trans p1)
    exact ⟨T2, by simp only [mSl, bnd, h1, h2, oSl, ofO], p1.trans p2⟩
  | none, none, some m, some i, _, hh =>
    obtain ⟨T2, h2, p2⟩ := hh T1 (p.trans p1)
    exact ⟨T2, by simp only [mSl, bnd, h1, h2, oSl, ofO], p1.trans p2⟩
  | some m, some i, some m', some i', hl, hh =>
    obtain ⟨T2, h2, p2⟩ := hl T1 (p.trans p1)
    obtain ⟨T3, h3, p3⟩ := hh T2 ((p.trans p1).trans p2)
    exact ⟨T3, by simp only [mSl, bnd, h1, h2, h3, oSl, ofO], (p1.trans p2).trans p3⟩
/-- xs[lo:hi] of a list -/
theorem el_sl {a : ME} {lo hi : Option ME} {l h : Option Int} {xs : List PV} (ha : EL a cl env S xs) (hl : match lo, l with | none, none => True | some m, some i => E m cl env S (.int i) | _, _ => False) (hh : match hi, h with | none, none => True | some m, some i => E m cl env S (.int i) | _, _ => False) :
    EL (mSl a lo hi) cl env S (cutP xs l h) := fun T p => by
  obtain ⟨T1, j, h1, p1, c1⟩ := ha T p
  match lo, l, hi, h, hl, hh with
  | none, none, none, none, _, _ => exact ⟨T1 ++ [.lst (cutP xs none none)], T1.length, by simp only [mSl, bnd, h1, oSl, c1, ofO], pre_new p1, cell_end⟩
  | some m, some i, none, none, hl, _ =>
    obtain ⟨T2, h2, p2⟩ := hl T1 (p.trans p1)
    exact ⟨T2 ++ [.lst (cutP xs (some i) none)], T2.length, by simp only [mSl, bnd, h1, h2, oSl, cell_pre c1 p2, ofO], pre_new (p1.trans p2), cell_end⟩
  | none, none, some m, some i, _, hh =>
    obtain ⟨T2, h2, p2⟩ := hh T1 (p.trans p1)
    exact ⟨T2 ++ [.lst (cutP xs none (some i))], T2.length, by simp only [mSl, bnd, h1, h2, oSl, cell_pre c1 p2, ofO], pre_new (p1.trans p2), cell_end⟩
  | some m, some i, some m', some i', hl, hh =>
    obtain ⟨T2, h2, p2⟩ := hl T1 (p.trans p1)
    obtain ⟨T3, h3, p3⟩ := hh T2 ((p.trans p1).trans p2)
    exact ⟨T3 ++ [.lst (cutP xs (some i) (some i'))], T3.length, by simp only [mSl, bnd, h1, h2, h3, oSl, cell_pre c1 (p2.trans p3), ofO], pre_new ((p1.trans p2).trans p3), cell_end⟩
/-! ### tests -/
theorem eb_bl {m : ME} {b : Bool} (h : E m cl env S (.bl b)) : EB (tBl m) cl env S b := fun T p => by
  obtain ⟨T1, h1, p1⟩ := h T p
  exact ⟨T1, by simp only [tBl, bnd, h1], p1⟩
theorem eb_tru {m : ME} {b : Bool} (h : E m cl env S (.bl b)) : EB (tTru m) cl env S b := fun T p => by
  obtain ⟨T1, h1, p1⟩ := h T p
  exact ⟨T1, by simp only [tTru, bnd, h1, truP], p1⟩
theorem eb_no {t : MB} {b : Bool} (h : EB t cl env S b) : EB (tNo t) cl env S (!b) := fun T p => by
  obtain ⟨T1, h1, p1⟩ := h T p
  exact ⟨T1, by simp only [tNo, bnd, h1], p1⟩
theorem eb_and {t u : MB} {b c : Bool} (h : EB t cl env S b) (k : b = true → EB u cl env S c) : EB (tAn t u) cl env S (b && c) := fun T p => by
  obtain ⟨T1, h1, p1⟩ := h T p
  cases b with
  | false => exact ⟨T1, by simp only [tAn, bnd, h1, Bool.false_and], p1⟩
  | true =>
    obtain ⟨T2, h2, p2⟩ := k rfl T1 (p.trans p1)
    exact ⟨T2, by simp only [tAn, bnd, h1, h2, Bool.true_and], p1.trans p2⟩
theorem eb_or {t u : MB} {b c : Bool} (h : EB t cl env S b) (k : b = false → EB u cl env S c) : EB (tO t u) cl env S (b || c) := fun T p => by
  obtain ⟨T1, h1, p1⟩ := h T p
  cases b with
  | true => exact ⟨T1, by simp only [tO, bnd, h1, Bool.true_or], p1⟩
  | false =>
    obtain ⟨T2, h2, p2⟩ := k rfl T1 (p.trans p1)
    exact ⟨T2, by simp only [tO, bnd, h1, h2, Bool.false_or], p1.trans p2⟩
theorem eb_yes : EB tYe cl env S true := fun T p => ⟨T, rfl, List.prefix_rfl⟩
theorem e_and {a b : ME} {x y : Bool} (h : E a cl env S (.bl x)) (k : x = true → E b cl env S (.bl y)) : E (mAn a b) cl env S (.bl (x && y)) := fun T p => by
  obtain ⟨T1, h1, p1⟩ := h T p
  cases x with
  | false => exact ⟨T1, by simp only [mAn, bnd, h1, truP, Bool.false_and], p1⟩
  | true =>
    obtain ⟨T2, h2, p2⟩ := k rfl T1 (p.trans p1)
    exact ⟨T2, by simp only [mAn, bnd, h1, truP, h2, Bool.true_and], p1.trans p2⟩
theorem e_no {a : ME} {x : Bool} (h : E a cl env S (.bl x)) : E (mNo a) cl env S (.bl (!x)) := fun T p => by
  obtain ⟨T1, h1, p1⟩ := h T p
  exact ⟨T1, by simp only [mNo, bnd, h1, truP], p1⟩
theorem e_if {t : MB} {a b : ME} {c : Bool} {v : PV} (h : EB t cl env S c) (ha : c = true → E a cl env S v) (hb : c = false → E b cl env S v) : E (mIf t a b) cl env S v := fun T p => by
  obtain ⟨T1, h1, p1⟩ := h T p
  cases c with
  | true =>
    obtain ⟨T2, h2, p2⟩ := ha rfl T1 (p.trans p1)
    exact ⟨T2, by simp only [mIf, bnd, h1, h2], p1.trans p2⟩
  | false =>
    obtain ⟨T2, h2, p2⟩ := hb rfl T1 (p.trans p1)
    exact ⟨T2, by simp only [mIf, bnd, h1, h2], p1.trans p2⟩
theorem el_if {t : MB} {a b : ME} {c : Bool} {v : List PV} (h : EB t cl env S c) (ha : c = true → EL a cl env S v) (hb : c = false → EL b cl env S v) : EL (mIf t a b) cl env S v := fun T p => by
  obtain ⟨T1, h1, p1⟩ := h T p
  cases c with
  | true =>
    obtain ⟨T2, i, h2, p2, c2⟩ := ha rfl T1 (p.trans p1)
    exact ⟨T2, i, by simp only [mIf, bnd, h1, h2], p1.trans p2, c2⟩
  | false =>
    obtain ⟨T2, i, h2, p2, c2⟩ := hb rfl T1 (p.trans p1)
    exact ⟨T2, i, by simp only [mIf, bnd, h1, h2], p1.trans p2, c2⟩
/-! ### comprehensions -/
theorem lcL_E {g : MG} {t : MB} {e : ME} {p : PV → Bool} {f : PV → PV} : ∀ {xs : List PV}, (∀ x ∈ xs, ∃ env1, g x env = some env1 ∧ EB t cl env1 S (p x) ∧ (p x = true → E e cl env1 S (f x))) → ∀ T, S <+: T → ∃ T', lcL cl g t e env xs T = .ok ((xs.filter p).map f) T' ∧ T <+: T'
  | [], _, T, _ => ⟨T, rfl, List.prefix_rfl⟩
  | x :: xs, h, T, q => by
    obtain ⟨env1, hg, ht, he⟩ := h x (by simp)
    obtain ⟨T1, h1, p1⟩ := ht T q
    have hr : ∀ y ∈ xs, ∃ env1, g y env = some env1 ∧ EB t cl env1 S (p y) ∧ (p y = true → E e cl env1 S (f y)) := fun y hy => h y (by simp [hy])
    cases hp : p x with
    | false =>
      rw [hp] at h1
      obtain ⟨T2, h2, p2⟩ := lcL_E hr T1 (q.trans p1)
      refine ⟨T2, ?_, p1.trans p2⟩
      simp only [lcL, hg, bndN, h1, h2, List.filter_cons, hp, Bool.false_eq_true, if_false]
    | true =>
      rw [hp] at h1
      obtain ⟨T2, h2, p2⟩ := he hp T1 (q.trans p1)
      obtain ⟨T3, h3, p3⟩ := lcL_E hr T2 ((q.trans p1).trans p2)
      refine ⟨T3, ?_, (p1.trans p2).trans p3⟩
      simp only [lcL, hg, bndN, h1, h2, h3, List.filter_cons, hp, if_true, List.map_cons]
theorem el_lc {vs : List Nat} {g : MG} {t : MB} {e : ME} {mi : MI} {p : PV → Bool} {f : PV → PV} {xs : List PV} (hi : ∀ T, S <+: T → ∃ T', mi cl env T = .ok (.im xs) T' ∧ T <+: T')
    (h : ∀ x ∈ xs, ∃ env1, g x (wipeE env vs) = some env1 ∧ EB t cl env1 S (p x) ∧ (p x = true → E e cl env1 S (f x))) (hl : xs.length ≤ 16777216) : EL (mLc vs g t e mi) cl env S ((xs.filter p).map f) := fun T q => by
  obtain ⟨T1, h1, p1⟩ := hi T q
  obtain ⟨T2, h2, p2⟩ := lcL_E h T1 (q.trans p1)
  refine ⟨T2 ++ [.lst ((xs.filter p).map f)], T2.length, ?_, pre_new (p1.trans p2), cell_end⟩
  have hl2 : ((xs.filter p).map f).length ≤ 16777216 := by
    rw [List.length_map]
    exact Nat.le_trans (List.length_filter_le _ _) hl
  simp only [mLc, bnd, h1, h2, bndN, if_pos hl2]
theorem i_tup {m : ME} {xs : List PV} (h : E m cl env S (.tup xs)) : ∀ T, S <+: T → ∃ T', iA m cl env T = .ok (.im xs) T' ∧ T <+: T' := fun T q => by
  obtain ⟨T1, h1, p1⟩ := h T q
  exact ⟨T1, by simp only [iA, bnd, h1, srcP], p1⟩
end
end Mi

set_option Elab.async false
set_option linter.all false
set_option maxRecDepth 100000
set_option maxHeartbeats 2000000
namespace Mi
open PySem PySem.Spec PyProof.Rows L2

/-! ### what a body answers -/
def RO (s : MS) (cl : Cl) (env : Env) (S : Sto) (v : PV) : Prop := ∃ T, outR (s cl env S) = .ok v T ∧ S <+: T
def RX (s : MS) (cl : Cl) (env : Env) (S : Sto) (c : Nat) : Prop := ∃ T env', s cl env S = .exc c none env' T ∧ S <+: T
/-- the body's answer with a list new to the def's base B -/
def RL (s : MS) (cl : Cl) (env : Env) (B S : Sto) (xs : List PV) : Prop := ∃ T i, outR (s cl env S) = .ok (.lst i) T ∧ B <+: T ∧ B.length ≤ i ∧ cellL T i = some xs
section
variable {cl : Cl} {env : Env} {S : Sto}
theorem RO.fin {s : MS} {v : PV} (h : RO s cl env S v) (b : below S.length v = true) : Mi.fin S.length (outR (s cl env S)) = .ok v S := by
  obtain ⟨T, h1, p⟩ := h
  rw [h1]
  exact fin_pre p b
theorem RX.fin {s : MS} {c : Nat} (h : RX s cl env S c) : Mi.fin S.length (outR (s cl env S)) = .exc c none S := by
  obtain ⟨T, env', h1, p⟩ := h
  rw [h1]
  exact fin_preX p
theorem RL.fin {s : MS} {xs : List PV} (h : RL s cl env S S xs) (b : belows S.length xs = true) : Mi.fin S.length (outR (s cl env S)) = .ok (.lst S.length) (S ++ [.lst xs]) := by
  obtain ⟨T, i, h1, p, hi, hc⟩ := h
  rw [h1]
  exact fin_preL p hi hc b
theorem ro_n : RO sN cl env S .non := ⟨S, rfl, List.prefix_rfl⟩
theorem ro_r {m : ME} {r : MS} {v : PV} (h : E m cl env S v) : RO (sQ (sR m) r) cl env S v := by
  obtain ⟨T, h1, p⟩ := h.at
  exact ⟨T, by simp only [sQ, sR, bndS, h1, outR], p⟩
theorem rl_r {m : ME} {r : MS} {B : Sto} {xs : List PV} (h : EL m cl env S xs) (hB : B <+: S) (hn : ∀ T i, m cl env S = .ok (.lst i) T → B.length ≤ i) : RL (sQ (sR m) r) cl env B S xs := by
  obtain ⟨T, i, h1, p, c⟩ := h.at
  exact ⟨T, i, by simp only [sQ, sR, bndS, h1, outR], hB.trans p, hn T i h1, c⟩
theorem RO.back {s : MS} {v : PV} {S0 : Sto} (h : RO s cl env S v) (p : S0 <+: S) : ∃ T, outR (s cl env S) = .ok v T ∧ S0 <+: T := by
  obtain ⟨T, h1, q⟩ := h
  exact ⟨T, h1, p.trans q⟩
theorem ro_s {i : Nat} {m : ME} {r : MS} {v w : PV} (h : E m cl env S v) (k : ∀ T, S <+: T → RO r cl (env.set i (.pv v)) T w) : RO (sQ (sS i m) r) cl env S w := by
  obtain ⟨T, h1, p⟩ := h.at
  obtain ⟨U, h2, q⟩ := k T p
  exact ⟨U, by simp only [sQ, sS, bndS, h1, h2], p.trans q⟩
theorem ro_sl {i : Nat} {m : ME} {r : MS} {xs : List PV} {w : PV} (h : EL m cl env S xs) (k : ∀ T j, S <+: T → cellL T j = some xs → RO r cl (env.set i (.pv (.lst j))) T w) : RO (sQ (sS i m) r) cl env S w := by
  obtain ⟨T, j, h1, p, c⟩ := h.at
  obtain ⟨U, h2, q⟩ := k T j p c
  exact ⟨U, by simp only [sQ, sS, bndS, h1, h2], p.trans q⟩
theorem ro_x {m : ME} {r : MS} {v w : PV} (h : E m cl env S v) (k : ∀ T, S <+: T → RO r cl env T w) : RO (sQ (sX m) r) cl env S w := by
  obtain ⟨T, h1, p⟩ := h.at
  obtain ⟨U, h2, q⟩ := k T p
  exact ⟨U, by simp only [sQ, sX, bndS, h1, h2], p.trans q⟩
theorem ro_g {g : MG} {m : ME} {r : MS} {v w : PV} {env1 : Env} (h : E m cl env S v) (hg : g v env = some env1) (k : ∀ T, S <+: T → RO r cl env1 T w) : RO (sQ (sG g m) r) cl env S w := by
  obtain ⟨T, h1, p⟩ := h.at
  obtain ⟨U, h2, q⟩ := k T p
  exact ⟨U, by simp only [sQ, sG, bndS, h1, hg, h2], p.trans q⟩
theorem ro_p2 {i j : Nat} {m : MA} {r : MS} {u v w : PV} (h : EA m cl env S [u, v]) (k : ∀ T, S <+: T → RO r cl ((env.set i (.pv u)).set j (.pv v)) T w) : RO (sQ (sP2 i j m) r) cl env S w := by
  obtain ⟨T, h1, p⟩ := h.at
  obtain ⟨U, h2, q⟩ := k T p
  exact ⟨U, by simp only [sQ, sP2, bndS, h1, h2], p.trans q⟩
theorem ro_no {t : MB} {a : MS} {r : MS} {w : PV} (h : EB t cl env S false) (k : ∀ T, S <+: T → RO r cl env T w) : RO (sQ (sI t a sN) r) cl env S w := by
  obtain ⟨T, h1, p⟩ := h.at
  obtain ⟨U, h2, q⟩ := k T p
  exact ⟨U, by simp only [sQ, sI, sN, bndS, h1, h2], p.trans q⟩
theorem ro_yes {t : MB} {m : ME} {b r : MS} {w : PV} (h : EB t cl env S true) (k : ∀ T, S <+: T → E m cl env T w) : RO (sQ (sI t (sQ (sR m) sN) b) r) cl env S w := by
  obtain ⟨T, h1, p⟩ := h.at
  obtain ⟨U, h2, q⟩ := (k T p).at
  exact ⟨U, by simp only [sQ, sI, sR, bndS, h1, h2, outR], p.trans q⟩
theorem rx_x {m : ME} {r : MS} {c : Nat} (h : ∃ T, m cl env S = .exc c none T ∧ S <+: T) : RX (sQ (sX m) r) cl env S c := by
  obtain ⟨T, h1, p⟩ := h
  exact ⟨T, env, by simp only [sQ, sX, bndS, h1], p⟩
theorem rx_skip {m : ME} {r : MS} {v : PV} {c : Nat} (h : E m cl env S v) (k : ∀ T, S <+: T → RX r cl env T c) : RX (sQ (sX m) r) cl env S c := by
  obtain ⟨T, h1, p⟩ := h.at
  obtain ⟨U, e, h2, q⟩ := k T p
  exact ⟨U, e, by simp only [sQ, sX, bndS, h1, h2], p.trans q⟩
theorem rx_raise {t : MB} {b r : MS} {c : Nat} (h : EB t cl env S true) : RX (sQ (sI t (sQ (sRz c) sN) b) r) cl env S c := by
  obtain ⟨T, h1, p⟩ := h.at
  exact ⟨T, env, by simp only [sQ, sI, sRz, bndS, h1], p⟩
theorem pre_set {B T : Sto} {i : Nat} {c : Cell} (p : B <+: T) (h : B.length ≤ i) : B <+: T.set i c := by
  obtain ⟨X, rfl⟩ := p
  rw [List.set_append_right _ _ h]
  exact List.prefix_append _ _
theorem cell_set {T : Sto} {i : Nat} {xs ys : List PV} (h : cellL T i = some xs) : cellL (T.set i (.lst ys)) i = some ys := by
  have e := cellL_some h
  have hj := (List.getElem?_eq_some_iff.mp e).1
  unfold cellL
  rw [List.getElem?_set_self hj]
theorem cell_set_ne {T : Sto} {i j : Nat} {ys : List PV} (h : i ≠ j) : cellL (T.set i (.lst ys)) j = cellL T j := by
  unfold cellL
  rw [List.getElem?_set_ne h]
theorem cell_ltl {T : Sto} {i : Nat} {xs : List PV} (h : cellL T i = some xs) : i < T.length := (List.getElem?_eq_some_iff.mp (cellL_some h)).1
/-- xs.append(v) -/
theorem app_eq {T : Sto} {i : Nat} {xs : List PV} {v : PV} (hc : cellL T i = some xs) (hl : xs.length < 16777216) (b : below i v = true) : mApp [.lst i, v] T = some (.non, T.set i (.lst (xs ++ [v]))) := by
  simp only [mApp, hc]
  rw [if_pos ⟨hl, b⟩]
/-! ### loops over what does not change -/
theorem for_P {g : MG} {b : MS} {P : List PV → Env → Sto → Prop} (h : ∀ x xs env T, P (x :: xs) env T → ∃ env1 e T2, g x env = some env1 ∧ (b cl env1 T = .nx e T2 ∨ b cl env1 T = .ct e T2) ∧ P xs e T2) : ∀ xs env T, P xs env T → ∃ e T2, forL cl g b xs env T = .nx e T2 ∧ P [] e T2
  | [], env, T, p => ⟨env, T, rfl, p⟩
  | x :: xs, env, T, p => by
    obtain ⟨env1, e, T2, hg, hb, p2⟩ := h x xs env T p
    obtain ⟨e2, T3, h3, p3⟩ := for_P h xs e T2 p2
    refine ⟨e2, T3, ?_, p3⟩
    rw [forL, hg]
    rcases hb with hb | hb <;> (dsimp only; rw [hb]; exact h3)
theorem fo_im {g : MG} {mi : MI} {b : MS} {env2 : Env} {S1 S2 : Sto} {xs : List PV} (h : mi cl env S = .ok (.im xs) S1) (h2 : forL cl g b xs env S1 = .nx env2 S2) : sFo g mi b cl env S = .nx env2 S2 := by
  unfold sFo bndS
  rw [h]
  exact h2
theorem i_rng {m : ME} {n : Nat} (hn : n ≤ 1000000) (h : E m cl env S (.int (n : Int))) : ∀ T, S <+: T → ∃ T', iR (aC m aN) cl env T = .ok (.im (rngL (fun k => (k : Int)) n)) T' ∧ T <+: T' := fun T q => by
  obtain ⟨T1, h1, p1⟩ := h T q
  have hr : rngP [.int (n : Int)] = some (.im (rngL (fun k => (k : Int)) n)) := by
    show (if okR (n : Int) = true then some (Src.im (rngL (fun k => (k : Int)) (n : Int).toNat)) else none) = _
    have : okR (n : Int) = true := by
      unfold okR
      exact Nat.ble_eq_true_of_le (by omega)
    rw [if_pos this, Int.toNat_natCast]
  exact ⟨T1, by simp only [iR, aC, aN, bnd, h1, hr], p1⟩
end
end Mi

set_option Elab.async false
set_option linter.all false
set_option maxRecDepth 100000
set_option maxHeartbeats 0
namespace Lk
open PySem PySem.Spec PyProof.Rows L2 Mi
/-! ### fractions in lowest terms -/
theorem r_sQ {a b : MS} {cl : Cl} {env : Mi.Env} {S : Sto} : sQ a b cl env S = (match a cl env S with | .nx env' S' => b cl env' S' | r => r) := rfl
theorem r_m2 {g : O2} {a b : ME} {cl : Cl} {env : Mi.Env} {S : Sto} : m2 g a b cl env S = bnd (a cl env S) fun x S1 => bnd (b cl env S1) fun y S2 => ofO (g x y S2) := rfl
def frp (p : Int × Int) : PV := .tup [.int p.1, .int p.2]
def gcdZ (t b : Int) : Int := (Nat.gcd t.natAbs b.natAbs : Nat)
def nrm (t b : Int) : Int × Int := if 0 < b.fdiv (gcdZ t b) then (t.fdiv (gcdZ t b), b.fdiv (gcdZ t b)) else (-(t.fdiv (gcdZ t b)), -(b.fdiv (gcdZ t b)))
theorem log2_mono {a b : Nat} (h : a ≤ b) : a.log2 ≤ b.log2 := by
  by_cases ha : a = 0
  · subst ha; exact Nat.zero_le _
  · have hb : b ≠ 0 := by omega
    exact (Nat.le_log2 hb).mpr (Nat.le_trans (Nat.log2_self_le ha) h)
theorem gcdZ_ne {t b : Int} (hb : b ≠ 0) : gcdZ t b ≠ 0 := by
  unfold gcdZ
  have : Nat.gcd t.natAbs b.natAbs ≠ 0 := by
    intro h
    have := Nat.eq_zero_of_gcd_eq_zero_right h
    omega
  omega
theorem gcdZ_log {t b : Int} (hb : b ≠ 0) (h : b.natAbs.log2 < 9000) : (gcdZ t b).natAbs.log2 < 9000 := by
  refine Nat.lt_of_le_of_lt (log2_mono ?_) h
  unfold gcdZ
  rw [Int.natAbs_natCast]
  exact Nat.le_of_dvd (by omega) (Nat.gcd_dvd_right _ _)
theorem fin_fr {n : Nat} {p : Int × Int} {S : Sto} : fin n (.ok (frp p) S) = .ok (frp p) (S.take n) := rfl
theorem fin_ii {n : Nat} {a b : Int} {S : Sto} : fin n (.ok (.tup [.int a, .int b]) S) = .ok (frp (a, b)) (S.take n) := rfl
theorem fin_int {n : Nat} {p : Int} {S : Sto} : fin n (.ok (.int p) S) = .ok (.int p) (S.take n) := rfl
theorem fin_bl {n : Nat} {p : Bool} {S : Sto} : fin n (.ok (.bl p) S) = .ok (.bl p) (S.take n) := rfl
theorem opDiv_ok {i j : Int} {S : Sto} (h : j ≠ 0) (h2 : j.natAbs.log2 < 9000) : opDiv (.int i) (.int j) S = some (.int (i.fdiv j), S) := by
  show (if _ then _ else _) = _
  rw [if_pos ⟨h, h2⟩]
theorem gcdZ_pos {t b : Int} (hb : b ≠ 0) : 0 < gcdZ t b := by
  have := gcdZ_ne (t := t) hb
  unfold gcdZ at *
  omega
theorem gcdZ_dvd1 {t b : Int} : gcdZ t b ∣ t := Int.natAbs_dvd_natAbs.mp (by unfold gcdZ; rw [Int.natAbs_natCast]; exact Nat.gcd_dvd_left _ _)
theorem gcdZ_dvd2 {t b : Int} : gcdZ t b ∣ b := Int.natAbs_dvd_natAbs.mp (by unfold gcdZ; rw [Int.natAbs_natCast]; exact Nat.gcd_dvd_right _ _)
/-- top and bottom by the common divisor -/
theorem nrm_ex (t b : Int) (hb : b ≠ 0) : ∃ g x y : Int, 0 < g ∧ t = g * x ∧ b = g * y ∧ y ≠ 0 ∧ Nat.gcd x.natAbs y.natAbs = 1 ∧ nrm t b = if 0 < y then (x, y) else (-x, -y) := by
  obtain ⟨x, hx⟩ := gcdZ_dvd1 (t := t) (b := b)
  obtain ⟨y, hy⟩ := gcdZ_dvd2 (t := t) (b := b)
  have g0 := gcdZ_pos (t := t) hb
  have ex : t.fdiv (gcdZ t b) = x := by
    conv => lhs; arg 1; rw [hx]
    exact Int.mul_fdiv_cancel_left _ (by omega)
  have ey : b.fdiv (gcdZ t b) = y := by
    conv => lhs; arg 1; rw [hy]
    exact Int.mul_fdiv_cancel_left _ (by omega)
  refine ⟨gcdZ t b, x, y, g0, hx, hy, ?_, ?_, ?_⟩
  · intro h
    rw [h, Int.mul_zero] at hy
    exact hb hy
  · have e : Nat.gcd t.natAbs b.natAbs = (gcdZ t b).natAbs := by unfold gcdZ; rw [Int.natAbs_natCast]
    have e2 : Nat.gcd t.natAbs b.natAbs = (gcdZ t b).natAbs * Nat.gcd x.natAbs y.natAbs := by
      have e3 : t.natAbs = (gcdZ t b).natAbs * x.natAbs := (congrArg Int.natAbs hx).trans (Int.natAbs_mul _ _)
      have e4 : b.natAbs = (gcdZ t b).natAbs * y.natAbs := (congrArg Int.natAbs hy).trans (Int.natAbs_mul _ _)
      generalize (gcdZ t b).natAbs = G at e3 e4
      rw [e3, e4, Nat.gcd_mul_left]
    rw [e] at e2
    have hp : 0 < (gcdZ t b).natAbs := by omega
    exact (Nat.eq_of_mul_eq_mul_left hp (by rw [Nat.mul_one]; exact e2)).symm
  · unfold nrm
    rw [ex, ey]
structure Red (p : Int × Int) : Prop where
  pos : 0 < p.2
  cop : Nat.gcd p.1.natAbs p.2.natAbs = 1
theorem nrm_red (t b : Int) (hb : b ≠ 0) : Red (nrm t b) := by
  obtain ⟨g, x, y, g0, ht, hbb, hy, hc, e⟩ := nrm_ex t b hb
  rw [e]
  by_cases h : 0 < y
  · rw [if_pos h]; exact ⟨h, hc⟩
  · rw [if_neg h]
    refine ⟨by show 0 < -y; omega, ?_⟩
    show Nat.gcd (-x).natAbs (-y).natAbs = 1
    rw [Int.natAbs_neg, Int.natAbs_neg]; exact hc
def val (p : Int × Int) : Rat := (p.1 : Rat) / (p.2 : Rat)
theorem val_nrm (t b : Int) (hb : b ≠ 0) : val (nrm t b) = (t : Rat) / (b : Rat) := by
  obtain ⟨g, x, y, g0, ht, hbb, hy, hc, e⟩ := nrm_ex t b hb
  rw [e]
  have hg : (g : Rat) ≠ 0 := by
    have : g ≠ 0 := by omega
    exact_mod_cast this
  have hy' : (y : Rat) ≠ 0 := by exact_mod_cast hy
  have e1 : (t : Rat) = g * x := by rw [ht]; exact Rat.intCast_mul _ _
  have e2 : (b : Rat) = g * y := by rw [hbb]; exact Rat.intCast_mul _ _
  rw [e1, e2]
  by_cases h : 0 < y
  · rw [if_pos h]; show (x : Rat) / (y : Rat) = _; grind
  · rw [if_neg h]
    show ((-x : Int) : Rat) / ((-y : Int) : Rat) = _
    rw [Rat.intCast_neg, Rat.intCast_neg]
    grind
theorem nrm_le1 (t b : Int) (hb : b ≠ 0) : (nrm t b).1.natAbs ≤ t.natAbs := by
  obtain ⟨g, x, y, g0, ht, hbb, hy, hc, e⟩ := nrm_ex t b hb
  have : x.natAbs ≤ t.natAbs := by
    rw [ht, Int.natAbs_mul]
    exact Nat.le_mul_of_pos_left _ (by omega)
  rw [e]
  by_cases h : 0 < y
  · rw [if_pos h]; exact this
  · rw [if_neg h]; show (-x).natAbs ≤ _; rw [Int.natAbs_neg]; exact this
theorem nrm_le2 (t b : Int) (hb : b ≠ 0) : (nrm t b).2.natAbs ≤ b.natAbs := by
  obtain ⟨g, x, y, g0, ht, hbb, hy, hc, e⟩ := nrm_ex t b hb
  have : y.natAbs ≤ b.natAbs := by
    rw [hbb, Int.natAbs_mul]
    exact Nat.le_mul_of_pos_left _ (by omega)
  rw [e]
  by_cases h : 0 < y
  · rw [if_pos h]; exact this
  · rw [if_neg h]; show (-y).natAbs ≤ _; rw [Int.natAbs_neg]; exact this
theorem red_inj {p q : Int × Int} (hp : Red p) (hq : Red q) (h : val p = val q) : p = q := by
  obtain ⟨a, b⟩ := p
  obtain ⟨c, d⟩ := q
  have b0 : 0 < b := hp.pos
  have d0 : 0 < d := hq.pos
  have hb : (b : Rat) ≠ 0 := by
    have : b ≠ 0 := by omega
    exact_mod_cast this
  have hd : (d : Rat) ≠ 0 := by
    have : d ≠ 0 := by omega
    exact_mod_cast this
  have h' : (a : Rat) / b = (c : Rat) / d := h
  have h2 : (a : Rat) * d = c * b := by grind
  have h3 : a * d = c * b := by exact_mod_cast h2
  have h4 : a.natAbs * d.natAbs = c.natAbs * b.natAbs := by rw [← Int.natAbs_mul, ← Int.natAbs_mul, h3]
  have c1 : Nat.gcd a.natAbs b.natAbs = 1 := hp.cop
  have c2 : Nat.gcd c.natAbs d.natAbs = 1 := hq.cop
  have d1 : b.natAbs ∣ d.natAbs := by
    have : b.natAbs ∣ a.natAbs * d.natAbs := ⟨c.natAbs, by rw [h4, Nat.mul_comm]⟩
    exact (Nat.Coprime.symm c1).dvd_of_dvd_mul_left this
  have d2 : d.natAbs ∣ b.natAbs := by
    have : d.natAbs ∣ c.natAbs * b.natAbs := ⟨a.natAbs, by rw [← h4, Nat.mul_comm]⟩
    exact (Nat.Coprime.symm c2).dvd_of_dvd_mul_left this
  have e : b.natAbs = d.natAbs := Nat.dvd_antisymm d1 d2
  have e' : b = d := by omega
  subst e'
  have : a = c := Int.eq_of_mul_eq_mul_right (by omega) h3
  rw [this]
theorem val_red {p : Int × Int} (hp : Red p) : nrm p.1 p.2 = p := by
  have b0 := hp.pos
  refine red_inj (nrm_red _ _ (by omega)) hp ?_
  rw [val_nrm _ _ (by omega)]
  rfl
theorem red2_ne {p : Int × Int} (hp : Red p) : (p.2 : Rat) ≠ 0 := by
  have := hp.pos
  have h : p.2 ≠ 0 := by omega
  exact_mod_cast h
def pl (p q : Int × Int) : Int × Int := nrm (p.1 * q.2 + q.1 * p.2) (p.2 * q.2)
def tm (p q : Int × Int) : Int × Int := nrm (p.1 * q.1) (p.2 * q.2)
def ov (p q : Int × Int) : Int × Int := nrm (p.1 * q.2) (p.2 * q.1)
theorem mul_ne0 {p q : Int × Int} (hp : Red p) (hq : Red q) : p.2 * q.2 ≠ 0 := by
  have a := hp.pos
  have b := hq.pos
  exact Int.mul_ne_zero (by omega) (by omega)
theorem pl_red {p q : Int × Int} (hp : Red p) (hq : Red q) : Red (pl p q) := nrm_red _ _ (mul_ne0 hp hq)
theorem tm_red {p q : Int × Int} (hp : Red p) (hq : Red q) : Red (tm p q) := nrm_red _ _ (mul_ne0 hp hq)
theorem ov_red {p q : Int × Int} (hp : Red p) (hq : q.1 ≠ 0) : Red (ov p q) := nrm_red _ _ (Int.mul_ne_zero (by have := hp.pos; omega) hq)
theorem val_pl {p q : Int × Int} (hp : Red p) (hq : Red q) : val (pl p q) = val p + val q := by
  unfold pl
  rw [val_nrm _ _ (mul_ne0 hp hq)]
  have a := red2_ne hp
  have b := red2_ne hq
  unfold val
  rw [Rat.intCast_add, Rat.intCast_mul, Rat.intCast_mul, Rat.intCast_mul]
  grind
theorem val_tm {p q : Int × Int} (hp : Red p) (hq : Red q) : val (tm p q) = val p * val q := by
  unfold tm
  rw [val_nrm _ _ (mul_ne0 hp hq)]
  have a := red2_ne hp
  have b := red2_ne hq
  unfold val
  rw [Rat.intCast_mul, Rat.intCast_mul]
  grind
theorem val_ov {p q : Int × Int} (hp : Red p) (hq : Red q) (h : q.1 ≠ 0) : val (ov p q) = val p / val q := by
  unfold ov
  rw [val_nrm _ _ (Int.mul_ne_zero (by have := hp.pos; omega) h)]
  have a := red2_ne hp
  have b := red2_ne hq
  have c : (q.1 : Rat) ≠ 0 := by exact_mod_cast h
  unfold val
  rw [Rat.intCast_mul, Rat.intCast_mul]
  grind
theorem tm_ov {p q : Int × Int} (hp : Red p) (hq : Red q) (h : q.1 ≠ 0) : tm (ov p q) q = p := by
  refine red_inj (tm_red (ov_red hp h) hq) hp ?_
  rw [val_tm (ov_red hp h) hq, val_ov hp hq h]
  have c : (q.1 : Rat) ≠ 0 := by exact_mod_cast h
  have b := red2_ne hq
  have : val q ≠ 0 := by unfold val; grind
  grind
structure Fr (n : Nat) (p : Int × Int) : Prop extends Red p where
  s1 : p.1.natAbs < 2 ^ n
  s2 : p.2.natAbs < 2 ^ n
theorem Fr.mono {n m : Nat} {p : Int × Int} (h : Fr n p) (l : n ≤ m) : Fr m p := ⟨h.toRed, Nat.lt_of_lt_of_le h.s1 (Nat.pow_le_pow_right (by decide) l), Nat.lt_of_lt_of_le h.s2 (Nat.pow_le_pow_right (by decide) l)⟩
theorem mul_lt2 {x y a b : Nat} (h1 : x < 2 ^ a) (h2 : y < 2 ^ b) : x * y < 2 ^ (a + b) := by
  rw [Nat.pow_add]
  exact Nat.mul_lt_mul'' h1 h2
theorem log_lt {x a : Nat} (ha : 0 < a) (h : x < 2 ^ a) : x.log2 < a := by
  by_cases h0 : x = 0
  · subst h0; exact ha
  · exact (Nat.log2_lt h0).mpr h
theorem nrm_fr {n : Nat} {t b : Int} (hb : b ≠ 0) (h1 : t.natAbs < 2 ^ n) (h2 : b.natAbs < 2 ^ n) : Fr n (nrm t b) :=
  ⟨nrm_red t b hb, Nat.lt_of_le_of_lt (nrm_le1 t b hb) h1, Nat.lt_of_le_of_lt (nrm_le2 t b hb) h2⟩
theorem sum_lt {p q : Int × Int} {a b : Nat} (hp : Fr a p) (hq : Fr b q) : (p.1 * q.2 + q.1 * p.2).natAbs < 2 ^ (a + b + 1) := by
  have x1 : (p.1 * q.2).natAbs < 2 ^ (a + b) := by rw [Int.natAbs_mul]; exact mul_lt2 hp.s1 hq.s2
  have x2 : (q.1 * p.2).natAbs < 2 ^ (a + b) := by rw [Int.natAbs_mul, Nat.add_comm]; exact mul_lt2 hq.s1 hp.s2
  rw [Nat.pow_succ]
  omega
theorem mul_lt {x y : Int} {a b : Nat} (h1 : x.natAbs < 2 ^ a) (h2 : y.natAbs < 2 ^ b) : (x * y).natAbs < 2 ^ (a + b) := by rw [Int.natAbs_mul]; exact mul_lt2 h1 h2
theorem pl_fr {p q : Int × Int} {a b : Nat} (hp : Fr a p) (hq : Fr b q) : Fr (a + b + 1) (pl p q) :=
  nrm_fr (mul_ne0 hp.toRed hq.toRed) (sum_lt hp hq) (Nat.lt_of_lt_of_le (mul_lt hp.s2 hq.s2) (Nat.pow_le_pow_right (by decide) (by omega)))
theorem tm_fr {p q : Int × Int} {a b : Nat} (hp : Fr a p) (hq : Fr b q) : Fr (a + b) (tm p q) :=
  nrm_fr (mul_ne0 hp.toRed hq.toRed) (mul_lt hp.s1 hq.s1) (mul_lt hp.s2 hq.s2)
theorem ov_fr {p q : Int × Int} {a b : Nat} (hp : Fr a p) (hq : Fr b q) (h : q.1 ≠ 0) : Fr (a + b) (ov p q) :=
  nrm_fr (Int.mul_ne_zero (by have := hp.pos; omega) h) (mul_lt hp.s1 hq.s2) (mul_lt hp.s2 hq.s1)
theorem oIx0 {p : Int × Int} {S : Sto} : oIx (frp p) (.int 0) S = some (.int p.1, S) := rfl
theorem oIx1 {p : Int × Int} {S : Sto} : oIx (frp p) (.int 1) S = some (.int p.2, S) := rfl
theorem opMul_ok {i j : Int} {a b : Nat} {S : Sto} (h1 : i.natAbs < 2 ^ a) (h2 : j.natAbs < 2 ^ b) (h : a + b ≤ 900000) : opMul (.int i) (.int j) S = some (.int (i * j), S) := by
  show (if _ then _ else _) = _
  have l1 := log_lt (a := a + 1) (by omega) (Nat.lt_of_lt_of_le h1 (Nat.pow_le_pow_right (by decide) (by omega)))
  have l2 := log_lt (a := b + 1) (by omega) (Nat.lt_of_lt_of_le h2 (Nat.pow_le_pow_right (by decide) (by omega)))
  rw [if_pos (by omega)]
theorem log_ok {j : Int} {n : Nat} (h : j.natAbs < 2 ^ n) (hn : n ≤ 8999) : j.natAbs.log2 < 9000 := by
  have l1 := log_lt (a := n + 1) (by omega) (Nat.lt_of_lt_of_le h (Nat.pow_le_pow_right (by decide) (by omega)))
  omega
theorem fin_frp {n : Nat} {p : Int × Int} {S : Sto} : fin n (.ok (frp p) S) = .ok (frp p) (S.take n) := rfl
theorem opAdd_ii {i j : Int} {S : Sto} : opAdd (.int i) (.int j) S = some (.int (i + j), S) := rfl
theorem fin_non {n : Nat} {S : Sto} : fin n (.ok .non S) = .ok .non (S.take n) := rfl
theorem cEq_ii {i j : Int} {S : Sto} : cEq (.int i) (.int j) S = some (.bl (decide (i = j)), S) := rfl
theorem cNe_ii {i j : Int} {S : Sto} : cNe (.int i) (.int j) S = some (.bl (!decide (i = j)), S) := rfl
def pol (ps : List (Int × Int)) : PV := .tup (ps.map frp)
theorem belows_frp {n : Nat} : ∀ {ps : List (Int × Int)}, belows n (ps.map frp) = true
  | [] => by simp only [List.map_nil, belows]
  | p :: ps => by
    rw [List.map_cons, belows, belows_frp, Bool.and_true]
    simp only [frp, below, belows, Bool.and_true]
theorem fin_pol {n : Nat} {ps : List (Int × Int)} {S : Sto} : fin n (.ok (pol ps) S) = .ok (pol ps) (S.take n) := by
  have h : below n (pol ps) = true := by unfold pol below; exact belows_frp
  show (match below n (pol ps) with | true => _ | false => _) = _
  rw [h]
theorem boolsP_true : ∀ (n : Nat), boolsP (List.replicate n (.bl true)) = some (List.replicate n true)
  | 0 => rfl
  | n + 1 => by rw [List.replicate_succ, boolsP, boolsP_true n]; rfl
theorem map_const {α β : Type} {c : β} (xs : List α) : xs.map (fun _ => c) = List.replicate xs.length c := by
  induction xs with
  | nil => rfl
  | cons x xs ih => rw [List.map_cons, ih]; rfl
theorem all_true : ∀ n, (List.replicate n true).all id = true
  | 0 => rfl
  | n + 1 => by rw [List.replicate_succ, List.all_cons, all_true n]; rfl
theorem atI_last {xs : List PV} : L2.atI xs (-1) = xs.getLast? := by
  by_cases h : xs.length = 0
  · have : xs = [] := List.length_eq_zero_iff.mp h
    subst this
    rfl
  · unfold L2.atI ixN
    rw [if_neg (by omega), if_pos (by omega), List.getLast?_eq_getElem?]
    show xs[((-1 : Int) + (xs.length : Int)).toNat]? = _
    congr 1
    omega
theorem atI_nat {α : Type} {xs : List α} {j : Nat} : L2.atI xs (j : Int) = xs[j]? := by
  unfold L2.atI ixN
  rw [if_pos (by omega)]
  by_cases h : j < xs.length
  · rw [if_pos (by omega)]; rfl
  · rw [if_neg (by omega), List.getElem?_eq_none (by omega)]; rfl
theorem okD_frp {S : Sto} {n : Nat} {p : Int × Int} : okD S (n + 2) (frp p) = true := rfl
theorem okD_pol {S : Sto} {n : Nat} : ∀ {ps : List (Int × Int)}, ((ps.map frp).all (okD S (n + 2))) = true
  | [] => rfl
  | p :: ps => by rw [List.map_cons, List.all_cons, okD_frp, okD_pol]; rfl
theorem cutP_take {xs : List PV} {m : Nat} (h : m ≤ xs.length) : cutP xs none (some (m : Int)) = xs.take m := by
  unfold cutP
  rw [HT.sIx_nat, HT.sIx_none, List.drop_zero, Nat.sub_zero, Nat.min_eq_left h]
def z01 : Int × Int := (0, 1)
theorem repP_one {x : PV} {n : Nat} : repP [x] (n : Int) = List.replicate n x := by
  unfold repP
  rw [Int.toNat_natCast]
  induction n with
  | zero => rfl
  | succ n ih => rw [List.replicate_succ, List.flatten_cons, ih]; rfl
theorem rngG_map {f : Nat → Int} : ∀ (m i : Nat), rngG f m i = (List.range' i m).map fun j => .int (f j)
  | 0, i => rfl
  | m + 1, i => by rw [rngG, rngG_map m (i + 1), List.range'_succ, List.map_cons]
theorem rngL_map {f : Nat → Int} {m : Nat} : rngL f m = (List.range m).map fun j => .int (f j) := by
  unfold rngL
  rw [rngG_map, List.range_eq_range']
theorem oIx_tup {S : Sto} {j : Nat} {ps : List (Int × Int)} {p : Int × Int} (hj : ps[j]? = some p) : oIx (pol ps) (.int (j : Int)) S = some (frp p, S) := by
  show (match L2.atI (ps.map frp) (j : Int) with | some v => some (v, S) | none => none) = _
  rw [atI_nat, List.getElem?_map, hj]
  rfl
theorem Fr01 : Fr 1 z01 := ⟨⟨by decide, by decide⟩, by decide, by decide⟩
theorem bLen_pol {S : Sto} {ps : List (Int × Int)} : bLen [pol ps] S = some (.int (ps.length : Int), S) := by
  show some (PV.int (((ps.map frp).length : Nat) : Int), S) = _
  rw [List.length_map]
theorem opAdd_pol {S : Sto} {ps qs : List (Int × Int)} (h : ps.length + qs.length ≤ 16777216) : opAdd (pol ps) (pol qs) S = some (pol (ps ++ qs), S) := by
  show (if (ps.map frp).length + (qs.map frp).length ≤ 16777216 then some (PV.tup (ps.map frp ++ qs.map frp), S) else none) = _
  rw [List.length_map, List.length_map, if_pos h]
  unfold pol
  rw [List.map_append]
theorem opSub_nat {S : Sto} {m n : Nat} (h : n ≤ m) : opSub (.int (m : Int)) (.int (n : Int)) S = some (.int ((m - n : Nat) : Int), S) := by
  show some (PV.int ((m : Int) - (n : Int)), S) = _
  congr 3
  omega
end Lk

set_option Elab.async false
set_option linter.all false
set_option maxRecDepth 100000
set_option maxHeartbeats 0
namespace Lk
open PySem PySem.Spec PyProof.Rows L2 Mi
/-! ### new lists, ranges, zips, chains -/
def EN (m : ME) (cl : Cl) (env : Mi.Env) (S : Sto) (xs : List PV) : Prop := ∀ T, S <+: T → ∃ T' i, m cl env T = .ok (.lst i) T' ∧ T <+: T' ∧ T.length ≤ i ∧ cellL T' i = some xs
def nls (l : List Nat) : List PV := l.map fun (j : Nat) => PV.int (j : Int)
section
variable {cl : Cl} {env : Mi.Env} {S : Sto}
theorem EN.el {m : ME} {xs : List PV} (h : EN m cl env S xs) : EL m cl env S xs := fun T p => by
  obtain ⟨T', i, h1, h2, _, h4⟩ := h T p
  exact ⟨T', i, h1, h2, h4⟩
theorem EN.cast {m : ME} {v w : List PV} (h : EN m cl env S v) (e : v = w) : EN m cl env S w := e ▸ h
theorem len_pre {S T : Sto} (p : S <+: T) : S.length ≤ T.length := p.length_le
theorem en_lc {vs : List Nat} {g : MG} {t : MB} {e : ME} {mi : MI} {p : PV → Bool} {f : PV → PV} {xs : List PV} (hi : ∀ T, S <+: T → ∃ T', mi cl env T = .ok (.im xs) T' ∧ T <+: T')
    (h : ∀ x ∈ xs, ∃ env1, g x (wipeE env vs) = some env1 ∧ EB t cl env1 S (p x) ∧ (p x = true → E e cl env1 S (f x))) (hl : xs.length ≤ 16777216) : EN (mLc vs g t e mi) cl env S ((xs.filter p).map f) := fun T q => by
  obtain ⟨T1, h1, p1⟩ := hi T q
  obtain ⟨T2, h2, p2⟩ := lcL_E h T1 (q.trans p1)
  refine ⟨T2 ++ [.lst ((xs.filter p).map f)], T2.length, ?_, pre_new (p1.trans p2), len_pre (p1.trans p2), cell_end⟩
  have hl2 : ((xs.filter p).map f).length ≤ 16777216 := by
    rw [List.length_map]
    exact Nat.le_trans (List.length_filter_le _ _) hl
  simp only [mLc, bnd, h1, h2, bndN, if_pos hl2]
theorem el_lcY {vs : List Nat} {g : MG} {e : ME} {mi : MI} {f : PV → PV} {xs : List PV} (hi : ∀ T, S <+: T → ∃ T', mi cl env T = .ok (.im xs) T' ∧ T <+: T')
    (h : ∀ x ∈ xs, ∃ env1, g x (wipeE env vs) = some env1 ∧ E e cl env1 S (f x)) (hl : xs.length ≤ 16777216) : EL (mLc vs g tYe e mi) cl env S (xs.map f) :=
  (el_lc (p := fun _ => true) (f := f) hi (fun x hx => by
    obtain ⟨env1, h1, h2⟩ := h x hx
    exact ⟨env1, h1, eb_yes, fun _ => h2⟩) hl).cast (by rw [List.filter_eq_self.mpr fun _ _ => rfl])
theorem rl_new {m : ME} {r : MS} {xs : List PV} (h : EN m cl env S xs) : RL (sQ (sR m) r) cl env S S xs := by
  obtain ⟨T, i, h1, p, n, c⟩ := h S List.prefix_rfl
  exact ⟨T, i, by simp only [sQ, sR, bndS, h1, outR], p, n, c⟩
theorem rng_ints {a b : Nat} : rngL (fun k => (a : Int) + (k : Nat)) b = nls (List.range' a b) := by
  rw [rngL_map]
  unfold nls
  rw [List.range'_eq_map_range, List.map_map]
  apply List.map_congr_left
  intro j _
  show PV.int _ = PV.int _
  congr 1
theorem i_rng2 {x y : ME} {a b : Nat} (ha : a ≤ 1000000) (hb : b ≤ 1000000) (h : E x cl env S (.int (a : Int))) (k : E y cl env S (.int (b : Int))) : ∀ T, S <+: T → ∃ T', iR (aC x (aC y aN)) cl env T = .ok (.im (nls (List.range' a (b - a)))) T' ∧ T <+: T' := fun T q => by
  obtain ⟨T1, h1, p1⟩ := h T q
  obtain ⟨T2, h2, p2⟩ := k T1 (q.trans p1)
  have hr : rngP [.int (a : Int), .int (b : Int)] = some (.im (nls (List.range' a (b - a)))) := by
    show (if (okR (a : Int) && okR (b : Int)) = true then some (Src.im (rngL (fun k => (a : Int) + (k : Nat)) ((b : Int) - (a : Int)).toNat)) else none) = _
    have e1 : okR (a : Int) = true := by
      unfold okR
      exact Nat.ble_eq_true_of_le (by omega)
    have e2 : okR (b : Int) = true := by
      unfold okR
      exact Nat.ble_eq_true_of_le (by omega)
    rw [e1, e2]
    show some (Src.im (rngL (fun k => (a : Int) + (k : Nat)) ((b : Int) - (a : Int)).toNat)) = _
    rw [rng_ints, show ((b : Int) - (a : Int)).toNat = b - a by omega]
  exact ⟨T2, by simp only [iR, aC, aN, bnd, h1, h2, hr], p1.trans p2⟩
theorem e_ch {g h : O2} {a b c : ME} {x y z : PV} {b1 b2 : Bool} (ha : E a cl env S x) (hb : E b cl env S y) (hg : ∀ T, g x y T = some (.bl b1, T)) (hc : E c cl env S z) (hh : ∀ T, h y z T = some (.bl b2, T)) : E (mCh g h a b c) cl env S (.bl (b1 && b2)) := fun T q => by
  obtain ⟨T1, h1, p1⟩ := ha T q
  obtain ⟨T2, h2, p2⟩ := hb T1 (q.trans p1)
  cases b1 with
  | false => exact ⟨T2, by simp only [mCh, bnd, h1, h2, hg, ofO, Bool.false_and], p1.trans p2⟩
  | true =>
    obtain ⟨T3, h3, p3⟩ := hc T2 ((q.trans p1).trans p2)
    exact ⟨T3, by simp only [mCh, bnd, h1, h2, hg, ofO, h3, hh, Bool.true_and], (p1.trans p2).trans p3⟩
theorem nth_zip {T : Sto} {a b i : Nat} {xs ys : List PV} (ha : cellL T a = some xs) (hb : cellL T b = some ys) : nthS (.zp (.lv a) (.lv b)) i T = some ((xs.zip ys)[i]?.map fun p => .tup [p.1, p.2]) := by
  show (match (cellL T a).map fun xs => xs[i]?, (cellL T b).map fun xs => xs[i]? with
    | some (some x), some (some y) => some (some (PV.tup [x, y]))
    | some none, some _ => some none
    | some (some _), some none => some none
    | _, _ => none) = _
  rw [ha, hb]
  show (match some xs[i]?, some ys[i]? with
    | some (some x), some (some y) => some (some (PV.tup [x, y]))
    | some none, some _ => some none
    | some (some _), some none => some none
    | _, _ => none) = _
  unfold List.zip
  rw [List.getElem?_zipWith]
  cases xs[i]? <;> cases ys[i]? <;> rfl
theorem lcN_zip {g : MG} {e : ME} {f : PV → PV → PV} {a b : Nat} {xs ys : List PV} (ha : cellL S a = some xs) (hb : cellL S b = some ys) (h : ∀ p ∈ xs.zip ys, ∃ env1, g (.tup [p.1, p.2]) env = some env1 ∧ E e cl env1 S (f p.1 p.2)) :
    ∀ m i T, S <+: T → i + m = (xs.zip ys).length → ∃ T', lcN cl g tYe e (.zp (.lv a) (.lv b)) env (m + 1) i T = .ok (((xs.zip ys).drop i).map fun p => f p.1 p.2) T' ∧ T <+: T'
  | 0, i, T, q, hm => by
    refine ⟨T, ?_, List.prefix_rfl⟩
    rw [lcN, nth_zip (cell_pre ha q) (cell_pre hb q), List.getElem?_eq_none (by omega), List.drop_of_length_le (by omega)]
    rfl
  | m + 1, i, T, q, hm => by
    obtain ⟨p, hp⟩ : ∃ p, (xs.zip ys)[i]? = some p := ⟨(xs.zip ys)[i], List.getElem?_eq_getElem (by omega)⟩
    obtain ⟨env1, hg, he⟩ := h p (List.mem_of_getElem? hp)
    obtain ⟨T1, h1, p1⟩ := he T q
    obtain ⟨T2, h2, p2⟩ := lcN_zip ha hb h m (i + 1) T1 (q.trans p1) (by omega)
    refine ⟨T2, ?_, p1.trans p2⟩
    have hd : (xs.zip ys).drop i = p :: (xs.zip ys).drop (i + 1) := by
      have hi : i < (xs.zip ys).length := by omega
      rw [List.drop_eq_getElem_cons hi]
      congr 1
      rw [List.getElem?_eq_getElem hi] at hp
      exact Option.some.inj hp
    rw [lcN, nth_zip (cell_pre ha q) (cell_pre hb q), hp]
    simp only [Option.map_some, hg, tYe, bndN, h1, h2, hd, List.map_cons]
/-- a comprehension over a zip of two lists -/
theorem el_lz {vs : List Nat} {g : MG} {e a b : ME} {f : PV → PV → PV} {xs ys : List PV} (ha : EL a cl env S xs) (hb : EL b cl env S ys) (h : ∀ p ∈ xs.zip ys, ∃ env1, g (.tup [p.1, p.2]) (wipeE env vs) = some env1 ∧ E e cl env1 S (f p.1 p.2)) (hl : (xs.zip ys).length ≤ 16777216) :
    EL (mLc vs g tYe e (iZ (aC a (aC b aN)))) cl env S ((xs.zip ys).map fun p => f p.1 p.2) := fun T q => by
  obtain ⟨T1, i, h1, p1, c1⟩ := ha T q
  obtain ⟨T2, j, h2, p2, c2⟩ := hb T1 (q.trans p1)
  have c1' := cell_pre c1 p2
  have up : S <+: T2 := (q.trans p1).trans p2
  obtain ⟨T3, h3, p3⟩ := lcN_zip (S := T2) (e := e) (g := g) (cl := cl) (env := wipeE env vs) c1' c2 (fun p hp => by
    obtain ⟨env1, hg, he⟩ := h p hp
    exact ⟨env1, hg, he.up up⟩) (xs.zip ys).length 0 T2 List.prefix_rfl (by omega)
  have hi : iZ (aC a (aC b aN)) cl env T = .ok (.zp (.lv i) (.lv j)) T2 := by
    simp only [iZ, aC, aN, bnd, h1, h2]
    rfl
  have ln : lenS (.zp (.lv i) (.lv j)) T2 = (xs.zip ys).length := by
    show min (match cellL T2 i with | some xs => xs.length | none => 0) (match cellL T2 j with | some xs => xs.length | none => 0) = _
    rw [c1', c2, List.length_zip]
  refine ⟨T3 ++ [.lst ((xs.zip ys).map fun p => f p.1 p.2)], T3.length, ?_, pre_new ((p1.trans p2).trans p3), cell_end⟩
  unfold mLc bnd
  rw [hi]
  dsimp only
  rw [ln, h3]
  simp only [bndN, List.drop_zero, List.length_map, if_pos hl]
theorem bTup_c {T : Sto} {i : Nat} {xs : List PV} (h : cellL T i = some xs) : bTup [.lst i] T = some (.tup xs, T) := by
  simp only [bTup, seqD, h, Option.map_some]
theorem bLen_c {T : Sto} {i : Nat} {xs : List PV} (h : cellL T i = some xs) : bLen [.lst i] T = some (.int (xs.length : Int), T) := by
  simp only [bLen, lenP, seqD, h, Option.map_some]
end
end Lk

set_option Elab.async false
set_option linter.all false
set_option maxRecDepth 100000
set_option maxHeartbeats 0
namespace Lk
open PySem PySem.Spec PyProof.Rows L2 Mi
/-! ### loops whose bodies change lists of their own -/
section
variable {cl : Cl} {env : Mi.Env} {S : Sto}
theorem forN_I {g : MG} {b : MS} {src : Src} {n : Nat} {P : Nat → Mi.Env → Sto → Prop}
    (h : ∀ i env S, i < n → P i env S → ∃ x env1 e S2, nthS src i S = some (some x) ∧ g x env = some env1 ∧ (b cl env1 S = .nx e S2 ∨ b cl env1 S = .ct e S2) ∧ P (i + 1) e S2) (hn : ∀ env S, P n env S → nthS src n S = some none) :
    ∀ m i env S, i + m = n → P i env S → ∃ e S2, forN cl g b src (m + 1) i env S = .nx e S2 ∧ P n e S2
  | 0, i, env, S, hm, p => by
    have e : i = n := by omega
    subst e
    refine ⟨env, S, ?_, p⟩
    rw [forN, hn env S p]
  | m + 1, i, env, S, hm, p => by
    obtain ⟨x, env1, e, S2, h1, h2, h3, h4⟩ := h i env S (by omega) p
    obtain ⟨e', S', h5, h6⟩ := forN_I h hn m (i + 1) e S2 (by omega) h4
    refine ⟨e', S', ?_, h6⟩
    rw [forN, h1]
    dsimp only
    rw [h2]
    rcases h3 with h3 | h3 <;> (dsimp only; rw [h3]; exact h5)
/-- for (i, x) in enumerate(a tuple) -/
theorem fo_en {g : MG} {b : MS} {m : ME} {xs : List PV} {P : Nat → Mi.Env → Sto → Prop} (h : E m cl env S (.tup xs)) (h0 : ∀ T, S <+: T → P 0 env T)
    (st : ∀ i x env T, xs[i]? = some x → P i env T → ∃ env1 e T2, g (.tup [.int (i : Int), x]) env = some env1 ∧ (b cl env1 T = .nx e T2 ∨ b cl env1 T = .ct e T2) ∧ P (i + 1) e T2) : ∃ e T2, sFo g (iE (aC m aN)) b cl env S = .nx e T2 ∧ P xs.length e T2 := by
  obtain ⟨T1, h1, p1⟩ := h.at
  have nth : ∀ i T, nthS (.en (.im xs)) i T = some (xs[i]?.map fun x => .tup [.int (i : Int), x]) := fun i T => by
    show some (xs[i]?.map _) = _
    rfl
  obtain ⟨e, T2, h2, p2⟩ := forN_I (cl := cl) (g := g) (b := b) (src := .en (.im xs)) (n := xs.length) (P := P) (fun i env S hi hp => by
    obtain ⟨x, hx⟩ : ∃ x, xs[i]? = some x := ⟨xs[i], List.getElem?_eq_getElem hi⟩
    obtain ⟨env1, e, T2, a1, a2, a3⟩ := st i x env S hx hp
    exact ⟨_, env1, e, T2, by rw [nth, hx]; rfl, a1, a2, a3⟩) (fun env S _ => by rw [nth, List.getElem?_eq_none (Nat.le_refl _)]; rfl) xs.length 0 env T1 (by omega) (h0 T1 p1)
  refine ⟨e, T2, ?_, p2⟩
  have hi : iE (aC m aN) cl env S = .ok (.en (.im xs)) T1 := by
    simp only [iE, aC, aN, bnd, h1]
    rfl
  unfold sFo bndS
  rw [hi]
  exact h2
/-- for x in what does not change -/
theorem fo_i {g : MG} {mi : MI} {b : MS} {xs : List PV} {P : Nat → Mi.Env → Sto → Prop} (hi : ∀ T, S <+: T → ∃ T', mi cl env T = .ok (.im xs) T' ∧ T <+: T') (h0 : ∀ T, S <+: T → P 0 env T)
    (st : ∀ i x env T, xs[i]? = some x → P i env T → ∃ env1 e T2, g x env = some env1 ∧ (b cl env1 T = .nx e T2 ∨ b cl env1 T = .ct e T2) ∧ P (i + 1) e T2) : ∃ e T2, sFo g mi b cl env S = .nx e T2 ∧ P xs.length e T2 := by
  obtain ⟨T1, h1, p1⟩ := hi S List.prefix_rfl
  have go : ∀ (m i : Nat) (env : Mi.Env) (T : Sto), i + m = xs.length → P i env T → ∃ e T2, forL cl g b (xs.drop i) env T = .nx e T2 ∧ P xs.length e T2 := by
    intro m
    induction m with
    | zero =>
      intro i env T hm p
      have e : i = xs.length := by omega
      subst e
      exact ⟨env, T, by rw [List.drop_length]; rfl, p⟩
    | succ m ih =>
      intro i env T hm p
      have hi : i < xs.length := by omega
      obtain ⟨env1, e, T2, a1, a2, a3⟩ := st i xs[i] env T (List.getElem?_eq_getElem hi) p
      obtain ⟨e2, T3, h3, p3⟩ := ih (i + 1) e T2 (by omega) a3
      refine ⟨e2, T3, ?_, p3⟩
      rw [List.drop_eq_getElem_cons hi, forL, a1]
      rcases a2 with a2 | a2 <;> (dsimp only; rw [a2]; exact h3)
  obtain ⟨e, T2, h2, p2⟩ := go xs.length 0 env T1 (by omega) (h0 T1 p1)
  exact ⟨e, T2, fo_im h1 (by simpa using h2), p2⟩
theorem x_app {i j : Nat} {m : ME} {xs : List PV} {v : PV} (hi : env[i]? = some (.pv (.lst j))) (hc : cellL S j = some xs) (h : E m cl env S v) (hl : xs.length < 16777216) (b : below j v = true) : ∃ T1, sX (mMt 1 mApp (mV i) (aC m aN)) cl env S = .nx env (T1.set j (.lst (xs ++ [v]))) ∧ S <+: T1 := by
  obtain ⟨T1, h1, p1⟩ := h.at
  refine ⟨T1, ?_, p1⟩
  simp only [sX, mMt, mV, hi, bnd, bndS, tagP, aC, aN, h1, app_eq (cell_pre hc p1) hl b, ofO]
theorem nx_q {a b : MS} {env' : Mi.Env} {S' : Sto} (h : a cl env S = .nx env' S') : sQ a b cl env S = b cl env' S' := by
  show (match a cl env S with | .nx env' S' => b cl env' S' | r => r) = _
  rw [h]
theorem nx_s {i : Nat} {m : ME} {v : PV} (h : E m cl env S v) : ∃ T, sS i m cl env S = .nx (env.set i (.pv v)) T ∧ S <+: T := by
  obtain ⟨T, h1, p⟩ := h.at
  exact ⟨T, by simp only [sS, bndS, h1], p⟩
theorem nx_sl {i : Nat} {m : ME} {xs : List PV} (h : EL m cl env S xs) : ∃ T j, sS i m cl env S = .nx (env.set i (.pv (.lst j))) T ∧ S <+: T ∧ cellL T j = some xs := by
  obtain ⟨T, j, h1, p, c⟩ := h.at
  exact ⟨T, j, by simp only [sS, bndS, h1], p, c⟩
theorem nx_sn {i : Nat} {m : ME} {xs : List PV} (h : EN m cl env S xs) : ∃ T j, sS i m cl env S = .nx (env.set i (.pv (.lst j))) T ∧ S <+: T ∧ S.length ≤ j ∧ cellL T j = some xs := by
  obtain ⟨T, j, h1, p, n, c⟩ := h S List.prefix_rfl
  exact ⟨T, j, by simp only [sS, bndS, h1], p, n, c⟩
theorem en_lst {as : MA} {vs : List PV} (ha : EA as cl env S vs) : EN (mLst as) cl env S vs := fun T p => by
  obtain ⟨T1, h1, p1⟩ := ha T p
  refine ⟨T1 ++ [.lst vs], T1.length, ?_, pre_new p1, len_pre p1, cell_end⟩
  simp only [mLst, bnd, h1]
theorem en_add {a b : ME} {xs ys : List PV} (ha : EL a cl env S xs) (hb : EL b cl env S ys) (hl : xs.length + ys.length ≤ 16777216) : EN (m2 opAdd a b) cl env S (xs ++ ys) := fun T p => by
  obtain ⟨T1, i, h1, p1, c1⟩ := ha T p
  obtain ⟨T2, j, h2, p2, c2⟩ := hb T1 (p.trans p1)
  refine ⟨T2 ++ [.lst (xs ++ ys)], T2.length, ?_, (p1.trans p2).trans (List.prefix_append _ _), len_pre (p1.trans p2), cell_end⟩
  simp only [m2, bnd, h1, h2, opAdd, cell_pre c1 p2, c2, if_pos hl, ofO]
theorem nx_i {t : MB} {a b : MS} {c : Bool} {r : RS} (h : EB t cl env S c) (ha : c = true → ∀ T, S <+: T → a cl env T = r) (hb : c = false → ∀ T, S <+: T → b cl env T = r) : True := trivial
theorem if_t {t : MB} {a b : MS} (h : EB t cl env S true) : ∃ T, sI t a b cl env S = a cl env T ∧ S <+: T := by
  obtain ⟨T, h1, p⟩ := h.at
  exact ⟨T, by simp only [sI, bndS, h1], p⟩
theorem if_f {t : MB} {a b : MS} (h : EB t cl env S false) : ∃ T, sI t a b cl env S = b cl env T ∧ S <+: T := by
  obtain ⟨T, h1, p⟩ := h.at
  exact ⟨T, by simp only [sI, bndS, h1], p⟩
theorem ro_q {a r : MS} {env' : Mi.Env} {T : Sto} {B : Sto} {v : PV} (h : a cl env S = .nx env' T) (k : ∃ U, outR (r cl env' T) = .ok v U ∧ B <+: U) : ∃ U, outR (sQ a r cl env S) = .ok v U ∧ B <+: U := by
  rw [nx_q h]
  exact k
end
end Lk

set_option Elab.async false
set_option linter.all false
set_option maxRecDepth 100000
set_option maxHeartbeats 4000000
namespace Lk
open PySem PySem.Spec PyProof.Rows L2 Mi
/-! ### the text -/
def top (i : Nat) : Stmt := PySem.Challenge.pw_stepsgrafted_k31_whole_parted_rules.main.body.getD i (.Pass ⟨0, 0, 0, 0⟩)
def gl : List (Nm × GV) := [([105, 115, 95, 119, 104, 111, 108, 101], .fn 0), ([110, 101, 101, 100, 95, 119, 104, 111, 108, 101], .fn 1), ([105, 115, 95, 116, 117, 112, 108, 101, 95, 111, 102], .fn 2), ([105, 115, 95, 102, 114, 97, 99, 116, 105, 111, 110], .fn 3), ([110, 101, 101, 100, 95, 102, 114, 97, 99, 116, 105, 111, 110], .fn 4), ([108, 111, 119, 101, 115, 116], .fn 5), ([116, 105, 109, 101, 115], .fn 6), ([105, 115, 95, 114, 117, 108, 101], .fn 7), ([110, 101, 101, 100, 95, 114, 117, 108, 101], .fn 8), ([105, 115, 95, 112, 97, 114, 116, 101, 100], .fn 9), ([112, 108, 97, 99, 101, 115, 95, 105, 110], .fn 10), ([98, 101, 116, 119, 101, 101, 110], .fn 11), ([112, 97, 114, 116, 105, 110, 103, 95, 112, 108, 97, 99, 101, 115], .fn 12), ([112, 97, 114, 116, 101, 100, 95, 97, 116], .fn 13), ([112, 97, 114, 116, 101, 100, 95, 119, 104, 111, 108, 108, 121], .fn 14), ([115, 105, 122, 101, 100, 95, 114, 111, 119], .fn 15), ([115, 105, 122, 101, 100, 95, 105, 110], .fn 16), ([115, 105, 122, 101, 100, 95, 114, 117, 108, 101], .fn 17), ([106, 111, 105, 110, 101, 100, 95, 105, 110], .fn 18), ([97, 108, 108, 95, 106, 111, 105, 110, 101, 100], .fn 19), ([110, 101, 101, 100, 95, 102, 101, 119], .fn 20), ([110, 101, 101, 100, 95, 106, 111, 105, 110, 101, 100], .fn 21), ([106, 111, 105, 110, 101, 100, 95, 114, 117, 108, 101, 115], .fn 22), ([114, 101, 112, 101, 97, 116, 95, 105, 110], .fn 23), ([114, 101, 112, 101, 97, 116, 101, 100, 95, 114, 117, 108, 101], .fn 24), ([95, 108, 97, 119, 95, 99, 117, 112], .fn 25), ([95, 108, 97, 119, 95, 114, 111, 108, 108], .fn 26), ([95, 108, 97, 119, 95, 115, 111, 109, 101], .fn 27), ([95, 108, 97, 119, 95, 115, 111, 114, 116], .fn 28), ([95, 108, 97, 119, 95, 108, 105, 107, 101], .fn 29), ([95, 108, 97, 119, 95, 101, 114, 114, 111, 114], .fn 30), ([95, 108, 97, 119, 95, 100, 114, 97, 119, 110], .fn 31), ([95, 108, 97, 119, 95, 114, 117, 108, 101], .fn 32), ([95, 108, 97, 119, 95, 98, 101, 104, 105, 110, 100], .fn 33), ([95, 108, 97, 119, 95, 112, 108, 97, 99, 101, 115], .fn 34), ([95, 108, 97, 119, 95, 112, 97, 114, 116], .fn 35), ([95, 108, 97, 119, 95, 114, 117, 108, 101, 95, 114, 105, 103, 104, 116], .fn 36), ([95, 108, 97, 119, 95, 114, 105, 103, 104, 116], .fn 37), ([95, 108, 97, 119, 95, 103, 114, 101, 97, 116, 95, 114, 105, 103, 104, 116], .fn 38), ([95, 108, 97, 119, 95, 101, 114, 114, 111, 114, 115, 95, 114, 105, 103, 104, 116], .fn 39), ([95, 108, 97, 119, 95, 119, 114, 105, 116, 116, 101, 110, 95, 114, 105, 103, 104, 116], .fn 40), ([108, 97, 119], .fn 41), ([83, 116, 101, 112, 69, 114, 114, 111, 114], .exc 42), ([73, 110, 118, 97, 108, 105, 100, 78, 117, 109, 98, 101, 114], .exc 43), ([73, 110, 118, 97, 108, 105, 100, 70, 114, 97, 99, 116, 105, 111, 110], .exc 44), ([73, 110, 118, 97, 108, 105, 100, 82, 117, 108, 101], .exc 45), ([83, 84, 65, 71, 69, 83], .ci (6)), ([79, 78, 69], .ct (.tup [.int (1), .int (1)])), ([78, 79, 84, 72, 73, 78, 71], .ct (.tup [.int (0), .int (1)])), ([79, 70, 84, 69, 78], .ci (6)), ([108, 101, 110], .bl 0), ([97, 98, 115], .bl 1), ([103, 99, 100], .bl 2), ([97, 108, 108], .bl 6), ([105, 115, 105, 110, 115, 116, 97, 110, 99, 101], .bl 8), ([114, 97, 110, 103, 101], .bl 9), ([101, 110, 117, 109, 101, 114, 97, 116, 101], .bl 10), ([122, 105, 112], .bl 11), ([105, 110, 116], .ty 0), ([98, 111, 111, 108], .ty 1), ([115, 116, 114], .ty 2), ([116, 117, 112, 108, 101], .ty 3), ([108, 105, 115, 116], .ty 4)]
def nms : List Str := (["is_whole", "need_whole", "is_tuple_of", "is_fraction", "need_fraction", "lowest", "times", "is_rule", "need_rule", "is_parted", "places_in", "between", "parting_places", "parted_at", "parted_wholly", "sized_row", "sized_in", "sized_rule", "joined_in", "all_joined", "need_few", "need_joined", "joined_rules", "repeat_in", "repeated_rule", "_law_cup", "_law_roll", "_law_some", "_law_sort", "_law_like"] : List Str) ++ (["_law_error", "_law_drawn", "_law_rule", "_law_behind", "_law_places", "_law_part", "_law_rule_right", "_law_right", "_law_great_right", "_law_errors_right", "_law_written_right", "law", "StepError", "InvalidNumber", "InvalidFraction", "InvalidRule", "TooMany"] : List Str)
def sl : List (Nat × Nat × Bool) := [(42, 42, true), (42, 43, false), (42, 44, false), (42, 45, false), (43, 42, true), (43, 43, true), (43, 44, false), (43, 45, false), (44, 42, true), (44, 43, false), (44, 44, true), (44, 45, false), (45, 42, true), (45, 43, false), (45, 44, false), (45, 45, true)]
def tf : List Str := ["_law_rule_right", "_law_errors_right"]
def G0 : Gl := glOf gl sl 42 [30]
/-- is_whole(value, low, high): 0 value, 1 low, 2 high -/
def bd0 : MS := (sQ (sR (mAn (mIsi 0 (mV 0)) (mAn (mNo (mIsi 1 (mV 0))) (mCh (cInt fun i j => decide (i ≤ j)) (cInt fun i j => decide (i ≤ j)) (mV 1) (mV 0) (mV 2)))))
    sN)
def df0 : Df := ⟨"is_whole", top 8, ["value", "low", "high"], [[118, 97, 108, 117, 101], [108, 111, 119], [104, 105, 103, 104]], [([118, 97, 108, 117, 101], .local), ([108, 111, 119], .local), ([104, 105, 103, 104], .local), ([105, 115, 105, 110, 115, 116, 97, 110, 99, 101], .globalImplicit), ([105, 110, 116], .globalImplicit), ([98, 111, 111, 108], .globalImplicit)], bd0, false⟩
theorem ok0 : DfOk G0 df0 := ⟨C8.fnScope_by (by decide +kernel), by kernel_rfl, fun _ _ _ _ _ _ us hl => match us, hl with | [_, _, _], _ => rfl, by kernel_rfl⟩
/-- need_whole(value, low, high): 0 value, 1 low, 2 high -/
def bd1 : MS := (sQ (sI (tNo (tTru (mCall 0 (aC (mV 0) (aC (mV 1) (aC (mV 2) aN)))))) (sQ (sRz 43)
    sN) sN)
    sN)
def df1 : Df := ⟨"need_whole", top 9, ["value", "low", "high"], [[118, 97, 108, 117, 101], [108, 111, 119], [104, 105, 103, 104]], [([118, 97, 108, 117, 101], .local), ([108, 111, 119], .local), ([104, 105, 103, 104], .local), ([105, 115, 95, 119, 104, 111, 108, 101], .globalImplicit), ([73, 110, 118, 97, 108, 105, 100, 78, 117, 109, 98, 101, 114], .globalImplicit)], bd1, false⟩
theorem ok1 : DfOk G0 df1 := ⟨C8.fnScope_by (by decide +kernel), by kernel_rfl, fun _ _ _ _ _ _ us hl => match us, hl with | [_, _, _], _ => rfl, by kernel_rfl⟩
/-- is_tuple_of(value, low, high): 0 value, 1 low, 2 high -/
def bd2 : MS := (sQ (sR (mAn (mIsi 3 (mV 0)) (mCh (cInt fun i j => decide (i ≤ j)) (cInt fun i j => decide (i ≤ j)) (mV 1) (mL bLen (aC (mV 0) aN)) (mV 2))))
    sN)
def df2 : Df := ⟨"is_tuple_of", top 10, ["value", "low", "high"], [[118, 97, 108, 117, 101], [108, 111, 119], [104, 105, 103, 104]], [([118, 97, 108, 117, 101], .local), ([108, 111, 119], .local), ([104, 105, 103, 104], .local), ([105, 115, 105, 110, 115, 116, 97, 110, 99, 101], .globalImplicit), ([116, 117, 112, 108, 101], .globalImplicit), ([108, 101, 110], .globalImplicit)], bd2, false⟩
theorem ok2 : DfOk G0 df2 := ⟨C8.fnScope_by (by decide +kernel), by kernel_rfl, fun _ _ _ _ _ _ us hl => match us, hl with | [_, _, _], _ => rfl, by kernel_rfl⟩
/-- is_fraction(value): 0 value, 1 .0, 2 part -/
def bd3 : MS := (sQ (sI (tNo (tTru (mCall 2 (aC (mV 0) (aC (mC (.int (2))) (aC (mC (.int (2))) aN)))))) (sQ (sR (mC (.bl false)))
    sN) sN)
    (sQ (sI (tNo (tTru (mL bAll (aC (mLc [1, 2] (gV 2) tYe (mAn (mIsi 0 (mV 2)) (mNo (mIsi 1 (mV 2)))) (iA (mV 0))) aN)))) (sQ (sR (mC (.bl false)))
    sN) sN)
    (sQ (sR (mAn (m2 (cInt fun i j => decide (j ≤ i)) (m2 oIx (mV 0) (mC (.int (1)))) (mC (.int (1)))) (m2 cEq (mL bGcd (aC (m2 oIx (mV 0) (mC (.int (0)))) (aC (m2 oIx (mV 0) (mC (.int (1)))) aN))) (mC (.int (1))))))
    sN)))
def df3 : Df := ⟨"is_fraction", top 12, ["value"], [[118, 97, 108, 117, 101], [46, 48], [112, 97, 114, 116]], [([118, 97, 108, 117, 101], .local), ([105, 115, 95, 116, 117, 112, 108, 101, 95, 111, 102], .globalImplicit), ([97, 108, 108], .globalImplicit), ([103, 99, 100], .globalImplicit)], bd3, false⟩
theorem ok3 : DfOk G0 df3 := ⟨C8.fnScope_by (by decide +kernel), by kernel_rfl, fun _ _ _ _ _ _ us hl => match us, hl with | [_], _ => rfl, by kernel_rfl⟩
/-- need_fraction(value): 0 value -/
def bd4 : MS := (sQ (sI (tNo (tTru (mCall 3 (aC (mV 0) aN)))) (sQ (sRz 44)
    sN) sN)
    sN)
def df4 : Df := ⟨"need_fraction", top 13, ["value"], [[118, 97, 108, 117, 101]], [([118, 97, 108, 117, 101], .local), ([105, 115, 95, 102, 114, 97, 99, 116, 105, 111, 110], .globalImplicit), ([73, 110, 118, 97, 108, 105, 100, 70, 114, 97, 99, 116, 105, 111, 110], .globalImplicit)], bd4, false⟩
theorem ok4 : DfOk G0 df4 := ⟨C8.fnScope_by (by decide +kernel), by kernel_rfl, fun _ _ _ _ _ _ us hl => match us, hl with | [_], _ => rfl, by kernel_rfl⟩
/-- lowest(top, bottom): 0 top, 1 bottom, 2 shared -/
def bd5 : MS := (sQ (sS 2 (mL bGcd (aC (mV 0) (aC (mV 1) aN))))
    (sQ (sP2 0 1 (aC (m2 opDiv (mV 0) (mV 2)) (aC (m2 opDiv (mV 1) (mV 2)) aN)))
    (sQ (sR (mIf (tBl (m2 (cInt fun i j => decide (j < i)) (mV 1) (mC (.int (0))))) (mTup (aC (mV 0) (aC (mV 1) aN))) (mTup (aC (m1 opNeg (mV 0)) (aC (m1 opNeg (mV 1)) aN)))))
    sN)))
def df5 : Df := ⟨"lowest", top 14, ["top", "bottom"], [[116, 111, 112], [98, 111, 116, 116, 111, 109], [115, 104, 97, 114, 101, 100]], [([116, 111, 112], .local), ([98, 111, 116, 116, 111, 109], .local), ([115, 104, 97, 114, 101, 100], .local), ([103, 99, 100], .globalImplicit)], bd5, false⟩
theorem ok5 : DfOk G0 df5 := ⟨C8.fnScope_by (by decide +kernel), by kernel_rfl, fun _ _ _ _ _ _ us hl => match us, hl with | [_, _], _ => rfl, by kernel_rfl⟩
/-- times(one, other): 0 one, 1 other -/
def bd6 : MS := (sQ (sR (mCall 5 (aC (m2 opMul (m2 oIx (mV 0) (mC (.int (0)))) (m2 oIx (mV 1) (mC (.int (0))))) (aC (m2 opMul (m2 oIx (mV 0) (mC (.int (1)))) (m2 oIx (mV 1) (mC (.int (1))))) aN))))
    sN)
def df6 : Df := ⟨"times", top 15, ["one", "other"], [[111, 110, 101], [111, 116, 104, 101, 114]], [([111, 110, 101], .local), ([111, 116, 104, 101, 114], .local), ([108, 111, 119, 101, 115, 116], .globalImplicit)], bd6, false⟩
theorem ok6 : DfOk G0 df6 := ⟨C8.fnScope_by (by decide +kernel), by kernel_rfl, fun _ _ _ _ _ _ us hl => match us, hl with | [_, _], _ => rfl, by kernel_rfl⟩
/-- is_rule(value): 0 value, 1 many, 2 .0, 3 row, 4 own -/
def bd7 : MS := (sQ (sI (tO (tNo (tTru (mCall 2 (aC (mV 0) (aC (mC (.int (2))) (aC (mC (.int (2))) aN)))))) (tNo (tTru (mCall 2 (aC (m2 oIx (mV 0) (mC (.int (0)))) (aC (mC (.int (1))) (aC (mC (.int (6))) aN))))))) (sQ (sR (mC (.bl false)))
    sN) sN)
    (sQ (sS 1 (mL bLen (aC (m2 oIx (mV 0) (mC (.int (0)))) aN)))
    (sQ (sI (tNo (tTru (mL bAll (aC (mLc [2, 3] (gV 3) tYe (mCall 2 (aC (mV 3) (aC (mV 1) (aC (mV 1) aN)))) (iA (m2 opAdd (m2 oIx (mV 0) (mC (.int (0)))) (mSl (mV 0) (some (mC (.int (1)))) none)))) aN)))) (sQ (sR (mC (.bl false)))
    sN) sN)
    (sQ (sR (mL bAll (aC (mLc [2, 3] (gV 3) tYe (mL bAll (aC (mLc [2, 4] (gV 4) tYe (mCall 3 (aC (mV 4) aN)) (iA (mV 3))) aN)) (iA (m2 opAdd (m2 oIx (mV 0) (mC (.int (0)))) (mSl (mV 0) (some (mC (.int (1)))) none)))) aN)))
    sN))))
def df7 : Df := ⟨"is_rule", top 18, ["value"], [[118, 97, 108, 117, 101], [109, 97, 110, 121], [46, 48], [114, 111, 119], [111, 119, 110]], [([118, 97, 108, 117, 101], .local), ([109, 97, 110, 121], .cell), ([105, 115, 95, 116, 117, 112, 108, 101, 95, 111, 102], .globalImplicit), ([83, 84, 65, 71, 69, 83], .globalImplicit), ([108, 101, 110], .globalImplicit), ([97, 108, 108], .globalImplicit)], bd7, false⟩
theorem ok7 : DfOk G0 df7 := ⟨C8.fnScope_by (by decide +kernel), by kernel_rfl, fun _ _ _ _ _ _ us hl => match us, hl with | [_], _ => rfl, by kernel_rfl⟩
/-- need_rule(value): 0 value -/
def bd8 : MS := (sQ (sI (tNo (tTru (mCall 7 (aC (mV 0) aN)))) (sQ (sRz 45)
    sN) sN)
    sN)
def df8 : Df := ⟨"need_rule", top 19, ["value"], [[118, 97, 108, 117, 101]], [([118, 97, 108, 117, 101], .local), ([105, 115, 95, 114, 117, 108, 101], .globalImplicit), ([73, 110, 118, 97, 108, 105, 100, 82, 117, 108, 101], .globalImplicit)], bd8, false⟩
theorem ok8 : DfOk G0 df8 := ⟨C8.fnScope_by (by decide +kernel), by kernel_rfl, fun _ _ _ _ _ _ us hl => match us, hl with | [_], _ => rfl, by kernel_rfl⟩
/-- is_parted(rule, place): 0 rule, 1 place, 2 rows, 3 ends, 4 .0, 5 row, 6 own -/
def bd9 : MS := (sQ (sG (gT (gC (gV 2) (gC (gV 3) gN))) (mV 0))
    (sQ (sI (tBl (m2 cNe (mLc [4, 5] (gV 5) (tBl (m2 cNe (mLc [4, 6] (gV 6) (tBl (m2 cNe (m2 oIx (mV 6) (mC (.int (0)))) (mC (.int (0))))) (mV 6) (iA (mSl (mV 5) (some (mV 1)) none))) (mLst aN))) (mV 5) (iA (mSl (mV 2) none (some (mV 1))))) (mLst aN))) (sQ (sR (mC (.bl false)))
    sN) sN)
    (sQ (sR (m2 cEq (mLc [4, 5] (gV 5) (tBl (m2 cNe (mSl (mV 5) none (some (mV 1))) (mSl (mV 3) none (some (mV 1))))) (mV 5) (iA (mSl (mV 2) (some (mV 1)) none))) (mLst aN)))
    sN)))
def df9 : Df := ⟨"is_parted", top 21, ["rule", "place"], [[114, 117, 108, 101], [112, 108, 97, 99, 101], [114, 111, 119, 115], [101, 110, 100, 115], [46, 48], [114, 111, 119], [111, 119, 110]], [([114, 117, 108, 101], .local), ([112, 108, 97, 99, 101], .cell), ([114, 111, 119, 115], .local), ([101, 110, 100, 115], .cell)], bd9, false⟩
theorem ok9 : DfOk G0 df9 := ⟨C8.fnScope_by (by decide +kernel), by kernel_rfl, fun _ _ _ _ _ _ us hl => match us, hl with | [_, _], _ => rfl, by kernel_rfl⟩
/-- places_in(rule): 0 rule, 1 .0, 2 place -/
def bd10 : MS := (sQ (sR (mLc [1, 2] (gV 2) (tTru (mCall 9 (aC (mV 0) (aC (mV 2) aN)))) (mV 2) (iR (aC (mC (.int (1))) (aC (mL bLen (aC (m2 oIx (mV 0) (mC (.int (1)))) aN)) aN)))))
    sN)
def df10 : Df := ⟨"places_in", top 22, ["rule"], [[114, 117, 108, 101], [46, 48], [112, 108, 97, 99, 101]], [([114, 117, 108, 101], .cell), ([114, 97, 110, 103, 101], .globalImplicit), ([108, 101, 110], .globalImplicit)], bd10, false⟩
theorem ok10 : DfOk G0 df10 := ⟨C8.fnScope_by (by decide +kernel), by kernel_rfl, fun _ _ _ _ _ _ us hl => match us, hl with | [_], _ => rfl, by kernel_rfl⟩
/-- between(rule, low, high): 0 rule, 1 low, 2 high, 3 rows, 4 ends, 5 .0, 6 row -/
def bd11 : MS := (sQ (sG (gT (gC (gV 3) (gC (gV 4) gN))) (mV 0))
    (sQ (sR (mTup (aC (mL bTup (aC (mLc [5, 6] (gV 6) tYe (mSl (mV 6) (some (mV 1)) (some (mV 2))) (iA (mSl (mV 3) (some (mV 1)) (some (mV 2))))) aN)) (aC (mSl (mV 4) (some (mV 1)) (some (mV 2))) aN))))
    sN))
def df11 : Df := ⟨"between", top 23, ["rule", "low", "high"], [[114, 117, 108, 101], [108, 111, 119], [104, 105, 103, 104], [114, 111, 119, 115], [101, 110, 100, 115], [46, 48], [114, 111, 119]], [([114, 117, 108, 101], .local), ([108, 111, 119], .cell), ([104, 105, 103, 104], .cell), ([114, 111, 119, 115], .local), ([101, 110, 100, 115], .local), ([116, 117, 112, 108, 101], .globalImplicit)], bd11, false⟩
theorem ok11 : DfOk G0 df11 := ⟨C8.fnScope_by (by decide +kernel), by kernel_rfl, fun _ _ _ _ _ _ us hl => match us, hl with | [_, _, _], _ => rfl, by kernel_rfl⟩
/-- parting_places(rule): 0 rule -/
def bd12 : MS := (sQ (sX (mCall 8 (aC (mV 0) aN)))
    (sQ (sR (mL bTup (aC (mCall 10 (aC (mV 0) aN)) aN)))
    sN))
def df12 : Df := ⟨"parting_places", top 24, ["rule"], [[114, 117, 108, 101]], [([114, 117, 108, 101], .local), ([110, 101, 101, 100, 95, 114, 117, 108, 101], .globalImplicit), ([116, 117, 112, 108, 101], .globalImplicit), ([112, 108, 97, 99, 101, 115, 95, 105, 110], .globalImplicit)], bd12, false⟩
theorem ok12 : DfOk G0 df12 := ⟨C8.fnScope_by (by decide +kernel), by kernel_rfl, fun _ _ _ _ _ _ us hl => match us, hl with | [_], _ => rfl, by kernel_rfl⟩
/-- parted_at(rule, place): 0 rule, 1 place -/
def bd13 : MS := (sQ (sX (mCall 8 (aC (mV 0) aN)))
    (sQ (sI (tO (tNo (tTru (mCall 0 (aC (mV 1) (aC (mC (.int (1))) (aC (m2 opSub (mL bLen (aC (m2 oIx (mV 0) (mC (.int (1)))) aN)) (mC (.int (1)))) aN)))))) (tNo (tTru (mCall 9 (aC (mV 0) (aC (mV 1) aN)))))) (sQ (sRz 43)
    sN) sN)
    (sQ (sR (mTup (aC (mCall 11 (aC (mV 0) (aC (mC (.int (0))) (aC (mV 1) aN)))) (aC (mCall 11 (aC (mV 0) (aC (mV 1) (aC (mL bLen (aC (m2 oIx (mV 0) (mC (.int (1)))) aN)) aN)))) aN))))
    sN)))
def df13 : Df := ⟨"parted_at", top 25, ["rule", "place"], [[114, 117, 108, 101], [112, 108, 97, 99, 101]], [([114, 117, 108, 101], .local), ([112, 108, 97, 99, 101], .local), ([110, 101, 101, 100, 95, 114, 117, 108, 101], .globalImplicit), ([105, 115, 95, 119, 104, 111, 108, 101], .globalImplicit), ([108, 101, 110], .globalImplicit), ([105, 115, 95, 112, 97, 114, 116, 101, 100], .globalImplicit), ([73, 110, 118, 97, 108, 105, 100, 78, 117, 109, 98, 101, 114], .globalImplicit), ([98, 101, 116, 119, 101, 101, 110], .globalImplicit)], bd13, false⟩
theorem ok13 : DfOk G0 df13 := ⟨C8.fnScope_by (by decide +kernel), by kernel_rfl, fun _ _ _ _ _ _ us hl => match us, hl with | [_, _], _ => rfl, by kernel_rfl⟩
/-- parted_wholly(rule): 0 rule, 1 ends, 2 .0, 3 low, 4 high -/
def bd14 : MS := (sQ (sX (mCall 8 (aC (mV 0) aN)))
    (sQ (sS 1 (m2 opAdd (m2 opAdd (mLst (aC (mC (.int (0))) aN)) (mCall 10 (aC (mV 0) aN))) (mLst (aC (mL bLen (aC (m2 oIx (mV 0) (mC (.int (1)))) aN)) aN))))
    (sQ (sR (mL bTup (aC (mLc [2, 3, 4] (gT (gC (gV 3) (gC (gV 4) gN))) tYe (mCall 11 (aC (mV 0) (aC (mV 3) (aC (mV 4) aN)))) (iZ (aC (mV 1) (aC (mSl (mV 1) (some (mC (.int (1)))) none) aN)))) aN)))
    sN)))
def df14 : Df := ⟨"parted_wholly", top 26, ["rule"], [[114, 117, 108, 101], [101, 110, 100, 115], [46, 48], [108, 111, 119], [104, 105, 103, 104]], [([114, 117, 108, 101], .cell), ([101, 110, 100, 115], .local), ([110, 101, 101, 100, 95, 114, 117, 108, 101], .globalImplicit), ([112, 108, 97, 99, 101, 115, 95, 105, 110], .globalImplicit), ([108, 101, 110], .globalImplicit), ([116, 117, 112, 108, 101], .globalImplicit), ([122, 105, 112], .globalImplicit)], bd14, false⟩
theorem ok14 : DfOk G0 df14 := ⟨C8.fnScope_by (by decide +kernel), by kernel_rfl, fun _ _ _ _ _ _ us hl => match us, hl with | [_], _ => rfl, by kernel_rfl⟩
/-- sized_row(row, fraction): 0 row, 1 fraction, 2 .0, 3 own -/
def bd15 : MS := (sQ (sR (mL bTup (aC (mLc [2, 3] (gV 3) tYe (mCall 6 (aC (mV 3) (aC (mV 1) aN))) (iA (mV 0))) aN)))
    sN)
def df15 : Df := ⟨"sized_row", top 29, ["row", "fraction"], [[114, 111, 119], [102, 114, 97, 99, 116, 105, 111, 110], [46, 48], [111, 119, 110]], [([114, 111, 119], .local), ([102, 114, 97, 99, 116, 105, 111, 110], .cell), ([116, 117, 112, 108, 101], .globalImplicit)], bd15, false⟩
theorem ok15 : DfOk G0 df15 := ⟨C8.fnScope_by (by decide +kernel), by kernel_rfl, fun _ _ _ _ _ _ us hl => match us, hl with | [_, _], _ => rfl, by kernel_rfl⟩
/-- sized_in(rule, fraction): 0 rule, 1 fraction, 2 rows, 3 ends, 4 .0, 5 row -/
def bd16 : MS := (sQ (sG (gT (gC (gV 2) (gC (gV 3) gN))) (mV 0))
    (sQ (sR (mTup (aC (mL bTup (aC (mLc [4, 5] (gV 5) tYe (mCall 15 (aC (mV 5) (aC (mV 1) aN))) (iA (mV 2))) aN)) (aC (mCall 15 (aC (mV 3) (aC (mV 1) aN))) aN))))
    sN))
def df16 : Df := ⟨"sized_in", top 30, ["rule", "fraction"], [[114, 117, 108, 101], [102, 114, 97, 99, 116, 105, 111, 110], [114, 111, 119, 115], [101, 110, 100, 115], [46, 48], [114, 111, 119]], [([114, 117, 108, 101], .local), ([102, 114, 97, 99, 116, 105, 111, 110], .cell), ([114, 111, 119, 115], .local), ([101, 110, 100, 115], .local), ([116, 117, 112, 108, 101], .globalImplicit), ([115, 105, 122, 101, 100, 95, 114, 111, 119], .globalImplicit)], bd16, false⟩
theorem ok16 : DfOk G0 df16 := ⟨C8.fnScope_by (by decide +kernel), by kernel_rfl, fun _ _ _ _ _ _ us hl => match us, hl with | [_, _], _ => rfl, by kernel_rfl⟩
/-- sized_rule(rule, fraction): 0 rule, 1 fraction -/
def bd17 : MS := (sQ (sX (mCall 8 (aC (mV 0) aN)))
    (sQ (sX (mCall 4 (aC (mV 1) aN)))
    (sQ (sR (mCall 16 (aC (mV 0) (aC (mV 1) aN))))
    sN)))
def df17 : Df := ⟨"sized_rule", top 31, ["rule", "fraction"], [[114, 117, 108, 101], [102, 114, 97, 99, 116, 105, 111, 110]], [([114, 117, 108, 101], .local), ([102, 114, 97, 99, 116, 105, 111, 110], .local), ([110, 101, 101, 100, 95, 114, 117, 108, 101], .globalImplicit), ([110, 101, 101, 100, 95, 102, 114, 97, 99, 116, 105, 111, 110], .globalImplicit), ([115, 105, 122, 101, 100, 95, 105, 110], .globalImplicit)], bd17, false⟩
theorem ok17 : DfOk G0 df17 := ⟨C8.fnScope_by (by decide +kernel), by kernel_rfl, fun _ _ _ _ _ _ us hl => match us, hl with | [_, _], _ => rfl, by kernel_rfl⟩
/-- joined_in(one, other): 0 one, 1 other, 2 rows, 3 ends, 4 further, 5 last, 6 ahead, 7 .0, 8 row -/
def bd18 : MS := (sQ (sG (gT (gC (gV 2) (gC (gV 3) gN))) (mV 0))
    (sQ (sG (gT (gC (gV 4) (gC (gV 5) gN))) (mV 1))
    (sQ (sS 6 (mL bTup (aC (mLc [7, 8] (gV 8) tYe (m2 opAdd (mV 8) (m2 opMul (mTup (aC (mC (.tup [.int (0), .int (1)])) aN)) (mL bLen (aC (mV 5) aN)))) (iA (mV 2))) aN)))
    (sQ (sR (mTup (aC (m2 opAdd (mV 6) (mL bTup (aC (mLc [7, 8] (gV 8) tYe (m2 opAdd (mV 3) (mV 8)) (iA (mV 4))) aN))) (aC (m2 opAdd (mV 3) (mV 5)) aN))))
    sN))))
def df18 : Df := ⟨"joined_in", top 34, ["one", "other"], [[111, 110, 101], [111, 116, 104, 101, 114], [114, 111, 119, 115], [101, 110, 100, 115], [102, 117, 114, 116, 104, 101, 114], [108, 97, 115, 116], [97, 104, 101, 97, 100], [46, 48], [114, 111, 119]], [([111, 110, 101], .local), ([111, 116, 104, 101, 114], .local), ([114, 111, 119, 115], .local), ([101, 110, 100, 115], .cell), ([102, 117, 114, 116, 104, 101, 114], .local), ([108, 97, 115, 116], .cell), ([97, 104, 101, 97, 100], .local), ([116, 117, 112, 108, 101], .globalImplicit)], bd18, false⟩
theorem ok18 : DfOk G0 df18 := ⟨C8.fnScope_by (by decide +kernel), by kernel_rfl, fun _ _ _ _ _ _ us hl => match us, hl with | [_, _], _ => rfl, by kernel_rfl⟩
/-- all_joined(rules): 0 rules, 1 found, 2 rule -/
def bd19 : MS := (sQ (sS 1 (m2 oIx (mV 0) (mC (.int (0)))))
    (sQ (sFo (gV 2) (iA (mSl (mV 0) (some (mC (.int (1)))) none)) (sQ (sS 1 (mCall 18 (aC (mV 1) (aC (mV 2) aN))))
    sN))
    (sQ (sR (mV 1))
    sN)))
def df19 : Df := ⟨"all_joined", top 35, ["rules"], [[114, 117, 108, 101, 115], [102, 111, 117, 110, 100], [114, 117, 108, 101]], [([114, 117, 108, 101, 115], .local), ([102, 111, 117, 110, 100], .local), ([114, 117, 108, 101], .local), ([106, 111, 105, 110, 101, 100, 95, 105, 110], .globalImplicit)], bd19, false⟩
theorem ok19 : DfOk G0 df19 := ⟨C8.fnScope_by (by decide +kernel), by kernel_rfl, fun _ _ _ _ _ _ us hl => match us, hl with | [_], _ => rfl, by kernel_rfl⟩
/-- need_few(many): 0 many -/
def bd20 : MS := (sQ (sI (tBl (m2 (cInt fun i j => decide (j < i)) (mV 0) (mC (.int (6))))) (sQ sErr
    sN) sN)
    sN)
def df20 : Df := ⟨"need_few", top 36, ["many"], [[109, 97, 110, 121]], [([109, 97, 110, 121], .local), ([83, 84, 65, 71, 69, 83], .globalImplicit), ([84, 111, 111, 77, 97, 110, 121], .globalImplicit)], bd20, false⟩
theorem ok20 : DfOk G0 df20 := ⟨C8.fnScope_by (by decide +kernel), by kernel_rfl, fun _ _ _ _ _ _ us hl => match us, hl with | [_], _ => rfl, by kernel_rfl⟩
/-- need_joined(one, other, share, rest): 0 one, 1 other, 2 share, 3 rest -/
def bd21 : MS := (sQ (sX (mCall 8 (aC (mV 0) aN)))
    (sQ (sX (mCall 8 (aC (mV 1) aN)))
    (sQ (sX (mCall 4 (aC (mV 2) aN)))
    (sQ (sX (mCall 4 (aC (mV 3) aN)))
    (sQ (sX (mCall 20 (aC (m2 opAdd (mL bLen (aC (m2 oIx (mV 0) (mC (.int (1)))) aN)) (mL bLen (aC (m2 oIx (mV 1) (mC (.int (1)))) aN))) aN)))
    sN)))))
def df21 : Df := ⟨"need_joined", top 37, ["one", "other", "share", "rest"], [[111, 110, 101], [111, 116, 104, 101, 114], [115, 104, 97, 114, 101], [114, 101, 115, 116]], [([111, 110, 101], .local), ([111, 116, 104, 101, 114], .local), ([115, 104, 97, 114, 101], .local), ([114, 101, 115, 116], .local), ([110, 101, 101, 100, 95, 114, 117, 108, 101], .globalImplicit), ([110, 101, 101, 100, 95, 102, 114, 97, 99, 116, 105, 111, 110], .globalImplicit), ([110, 101, 101, 100, 95, 102, 101, 119], .globalImplicit), ([108, 101, 110], .globalImplicit)], bd21, false⟩
theorem ok21 : DfOk G0 df21 := ⟨C8.fnScope_by (by decide +kernel), by kernel_rfl, fun _ _ _ _ _ _ us hl => match us, hl with | [_, _, _, _], _ => rfl, by kernel_rfl⟩
/-- joined_rules(one, other, share, rest): 0 one, 1 other, 2 share, 3 rest -/
def bd22 : MS := (sQ (sX (mCall 21 (aC (mV 0) (aC (mV 1) (aC (mV 2) (aC (mV 3) aN))))))
    (sQ (sR (mCall 18 (aC (mCall 16 (aC (mV 0) (aC (mV 2) aN))) (aC (mCall 16 (aC (mV 1) (aC (mV 3) aN))) aN))))
    sN))
def df22 : Df := ⟨"joined_rules", top 38, ["one", "other", "share", "rest"], [[111, 110, 101], [111, 116, 104, 101, 114], [115, 104, 97, 114, 101], [114, 101, 115, 116]], [([111, 110, 101], .local), ([111, 116, 104, 101, 114], .local), ([115, 104, 97, 114, 101], .local), ([114, 101, 115, 116], .local), ([110, 101, 101, 100, 95, 106, 111, 105, 110, 101, 100], .globalImplicit), ([106, 111, 105, 110, 101, 100, 95, 105, 110], .globalImplicit), ([115, 105, 122, 101, 100, 95, 105, 110], .globalImplicit)], bd22, false⟩
theorem ok22 : DfOk G0 df22 := ⟨C8.fnScope_by (by decide +kernel), by kernel_rfl, fun _ _ _ _ _ _ us hl => match us, hl with | [_, _, _, _], _ => rfl, by kernel_rfl⟩
/-- repeat_in(rule, often): 0 rule, 1 often -/
def bd23 : MS := (sQ (sR (mIf (tBl (m2 (cInt fun i j => decide (j < i)) (mV 1) (mC (.int (1))))) (mCall 19 (aC (m2 opMul (mLst (aC (mCall 16 (aC (mV 0) (aC (mTup (aC (mC (.int (1))) (aC (mV 1) aN))) aN))) aN)) (mV 1)) aN)) (mCall 16 (aC (mV 0) (aC (mC (.tup [.int (1), .int (1)])) aN)))))
    sN)
def df23 : Df := ⟨"repeat_in", top 39, ["rule", "often"], [[114, 117, 108, 101], [111, 102, 116, 101, 110]], [([114, 117, 108, 101], .local), ([111, 102, 116, 101, 110], .local), ([97, 108, 108, 95, 106, 111, 105, 110, 101, 100], .globalImplicit), ([115, 105, 122, 101, 100, 95, 105, 110], .globalImplicit), ([79, 78, 69], .globalImplicit)], bd23, false⟩
theorem ok23 : DfOk G0 df23 := ⟨C8.fnScope_by (by decide +kernel), by kernel_rfl, fun _ _ _ _ _ _ us hl => match us, hl with | [_, _], _ => rfl, by kernel_rfl⟩
/-- repeated_rule(rule, often): 0 rule, 1 often -/
def bd24 : MS := (sQ (sX (mCall 8 (aC (mV 0) aN)))
    (sQ (sX (mCall 1 (aC (mV 1) (aC (mC (.int (1))) (aC (mC (.int (6))) aN)))))
    (sQ (sX (mCall 20 (aC (m2 opMul (mV 1) (mL bLen (aC (m2 oIx (mV 0) (mC (.int (1)))) aN))) aN)))
    (sQ (sR (mCall 23 (aC (mV 0) (aC (mV 1) aN))))
    sN))))
def df24 : Df := ⟨"repeated_rule", top 42, ["rule", "often"], [[114, 117, 108, 101], [111, 102, 116, 101, 110]], [([114, 117, 108, 101], .local), ([111, 102, 116, 101, 110], .local), ([110, 101, 101, 100, 95, 114, 117, 108, 101], .globalImplicit), ([110, 101, 101, 100, 95, 119, 104, 111, 108, 101], .globalImplicit), ([79, 70, 84, 69, 78], .globalImplicit), ([110, 101, 101, 100, 95, 102, 101, 119], .globalImplicit), ([108, 101, 110], .globalImplicit), ([114, 101, 112, 101, 97, 116, 95, 105, 110], .globalImplicit)], bd24, false⟩
theorem ok24 : DfOk G0 df24 := ⟨C8.fnScope_by (by decide +kernel), by kernel_rfl, fun _ _ _ _ _ _ us hl => match us, hl with | [_, _], _ => rfl, by kernel_rfl⟩
/-- _law_cup(script): 0 script, 1 cell -/
def bd25 : MS := (sQ (sS 1 (mL bAbs (aC (m2 oIx (m2 opAdd (mL bList (aC (mV 0) aN)) (mLst (aC (mC (.int (0))) aN))) (mC (.int (0)))) aN)))
    (sQ (sR (mLst (aC (mIf (tBl (m2 (cInt fun i j => decide (j ≤ i)) (mV 1) (m2 opPow (mC (.int (10))) (mC (.int (18)))))) (m2 opDiv (mV 1) (mC (.int (311)))) (mC (.int (0)))) (aC (m2 opMod (mL bInt (aC (m2 opAdd (m2 opMul (mV 1) (mC (.int (1091)))) (mC (.int (95651)))) aN)) (mC (.int (1048576)))) aN))))
    sN))
def df25 : Df := ⟨"_law_cup", top 44, ["script"], [[115, 99, 114, 105, 112, 116], [99, 101, 108, 108]], [([115, 99, 114, 105, 112, 116], .local), ([99, 101, 108, 108], .local), ([97, 98, 115], .globalImplicit), ([108, 105, 115, 116], .globalImplicit), ([105, 110, 116], .globalImplicit)], bd25, false⟩
theorem ok25 : DfOk G0 df25 := ⟨C8.fnScope_by (by decide +kernel), by kernel_rfl, fun _ _ _ _ _ _ us hl => match us, hl with | [_], _ => rfl, by kernel_rfl⟩
/-- _law_roll(cup, many): 0 cup, 1 many, 2 found -/
def bd26 : MS := (sQ (sI (tBl (m2 (cInt fun i j => decide (j < i)) (m2 oIx (mV 0) (mC (.int (0)))) (mC (.int (0))))) (sQ (sS 2 (m2 opMod (mL bInt (aC (m2 oIx (mV 0) (mC (.int (0)))) aN)) (mV 1)))
    (sQ (sA (mV 0) (mC (.int (0))) (m2 opDiv (m2 oIx (mV 0) (mC (.int (0)))) (mV 1)))
    (sQ (sR (mV 2))
    sN))) sN)
    (sQ (sA (mV 0) (mC (.int (1))) (m2 opMod (mL bInt (aC (m2 opAdd (m2 opMul (m2 oIx (mV 0) (mC (.int (1)))) (mC (.int (22229)))) (mC (.int (46399)))) aN)) (mC (.int (1048576)))))
    (sQ (sR (m2 opMod (mL bInt (aC (m2 opDiv (m2 oIx (mV 0) (mC (.int (1)))) (mC (.int (137)))) aN)) (mV 1)))
    sN)))
def df26 : Df := ⟨"_law_roll", top 45, ["cup", "many"], [[99, 117, 112], [109, 97, 110, 121], [102, 111, 117, 110, 100]], [([99, 117, 112], .local), ([109, 97, 110, 121], .local), ([102, 111, 117, 110, 100], .local), ([105, 110, 116], .globalImplicit)], bd26, false⟩
theorem ok26 : DfOk G0 df26 := ⟨C8.fnScope_by (by decide +kernel), by kernel_rfl, fun _ _ _ _ _ _ us hl => match us, hl with | [_, _], _ => rfl, by kernel_rfl⟩
/-- _law_some(cup, things): 0 cup, 1 things -/
def bd27 : MS := (sQ (sR (m2 oIx (mV 1) (mCall 26 (aC (mV 0) (aC (mL bLen (aC (mV 1) aN)) aN)))))
    sN)
def df27 : Df := ⟨"_law_some", top 46, ["cup", "things"], [[99, 117, 112], [116, 104, 105, 110, 103, 115]], [([99, 117, 112], .local), ([116, 104, 105, 110, 103, 115], .local), ([95, 108, 97, 119, 95, 114, 111, 108, 108], .globalImplicit), ([108, 101, 110], .globalImplicit)], bd27, false⟩
theorem ok27 : DfOk G0 df27 := ⟨C8.fnScope_by (by decide +kernel), by kernel_rfl, fun _ _ _ _ _ _ us hl => match us, hl with | [_, _], _ => rfl, by kernel_rfl⟩
/-- _law_sort(value): 0 value -/
def bd28 : MS := (sQ (sI (tO (tBl (m2 cIs (mV 0) (mC .non))) (tTru (mIsi 1 (mV 0)))) (sQ (sR (mIf (tBl (m2 cIs (mV 0) (mC .non))) (mC (.int (0))) (mC (.int (1)))))
    sN) sN)
    (sQ (sI (tO (tTru (mIsi 0 (mV 0))) (tTru (mIsi 2 (mV 0)))) (sQ (sR (mIf (tTru (mIsi 0 (mV 0))) (mC (.int (2))) (mC (.int (3)))))
    sN) sN)
    (sQ (sR (mIf (tTru (mIsi 3 (mV 0))) (mC (.int (4))) (mIf (tTru (mIsi 4 (mV 0))) (mC (.int (5))) (mC (.int (6))))))
    sN)))
def df28 : Df := ⟨"_law_sort", top 47, ["value"], [[118, 97, 108, 117, 101]], [([118, 97, 108, 117, 101], .local), ([105, 115, 105, 110, 115, 116, 97, 110, 99, 101], .globalImplicit), ([98, 111, 111, 108], .globalImplicit), ([105, 110, 116], .globalImplicit), ([115, 116, 114], .globalImplicit), ([116, 117, 112, 108, 101], .globalImplicit), ([108, 105, 115, 116], .globalImplicit)], bd28, false⟩
theorem ok28 : DfOk G0 df28 := ⟨C8.fnScope_by (by decide +kernel), by kernel_rfl, fun _ _ _ _ _ _ us hl => match us, hl with | [_], _ => rfl, by kernel_rfl⟩
/-- _law_like(one, other): 0 one, 1 other, 2 sort, 3 .0, 4 first, 5 second -/
def bd29 : MS := (sQ (sS 2 (mCall 28 (aC (mV 1) aN)))
    (sQ (sI (tO (tBl (m2 cNe (mCall 28 (aC (mV 0) aN)) (mV 2))) (tBl (m2 cEq (mV 2) (mC (.int (6)))))) (sQ (sR (mC (.bl false)))
    sN) sN)
    (sQ (sI (tBl (m2 cIn (mV 2) (mTup (aC (mC (.int (4))) (aC (mC (.int (5))) aN))))) (sQ (sR (mAn (m2 cEq (mL bLen (aC (mV 0) aN)) (mL bLen (aC (mV 1) aN))) (m2 cEq (mLc [3, 4, 5] (gT (gC (gV 4) (gC (gV 5) gN))) (tNo (tTru (mCall 29 (aC (mV 4) (aC (mV 5) aN))))) (mC (.int (1))) (iZ (aC (mV 0) (aC (mV 1) aN)))) (mLst aN))))
    sN) sN)
    (sQ (sR (m2 cEq (mV 0) (mV 1)))
    sN))))
def df29 : Df := ⟨"_law_like", top 48, ["one", "other"], [[111, 110, 101], [111, 116, 104, 101, 114], [115, 111, 114, 116], [46, 48], [102, 105, 114, 115, 116], [115, 101, 99, 111, 110, 100]], [([111, 110, 101], .local), ([111, 116, 104, 101, 114], .local), ([115, 111, 114, 116], .local), ([95, 108, 97, 119, 95, 115, 111, 114, 116], .globalImplicit), ([108, 101, 110], .globalImplicit), ([122, 105, 112], .globalImplicit)], bd29, false⟩
theorem ok29 : DfOk G0 df29 := ⟨C8.fnScope_by (by decide +kernel), by kernel_rfl, fun _ _ _ _ _ _ us hl => match us, hl with | [_, _], _ => rfl, by kernel_rfl⟩
/-- _law_error(call): 0 call, 1 e, 2 some, 3 .0, 4 word, 5 is_so -/
def bd30 : MS := (sQ (sTr G0.sub 42 1 (sQ (sX (mAct 0))
    sN) (sQ (sS 2 (mLst (aC (mTup (aC (mC (.str [114, 117, 108, 101])) (aC (mIsE G0.sub 1 45) aN))) (aC (mTup (aC (mC (.str [110, 117, 109, 98, 101, 114])) (aC (mIsE G0.sub 1 43) aN))) aN))))
    (sQ (sR (mMt 0 mJoin (mC (.str [32])) (aC (mLc [3, 4, 5] (gT (gC (gV 4) (gC (gV 5) gN))) (tTru (mV 5)) (mV 4) (iAL (mV 2))) aN)))
    sN)))
    (sQ (sR (mC (.str [])))
    sN))
def df30 : Df := ⟨"_law_error", top 49, ["call"], [[99, 97, 108, 108], [101], [115, 111, 109, 101], [46, 48], [119, 111, 114, 100], [105, 115, 95, 115, 111]], [([99, 97, 108, 108], .local), ([101], .local), ([115, 111, 109, 101], .local), ([83, 116, 101, 112, 69, 114, 114, 111, 114], .globalImplicit), ([105, 115, 105, 110, 115, 116, 97, 110, 99, 101], .globalImplicit), ([73, 110, 118, 97, 108, 105, 100, 82, 117, 108, 101], .globalImplicit), ([73, 110, 118, 97, 108, 105, 100, 78, 117, 109, 98, 101, 114], .globalImplicit)], bd30, false⟩
theorem ok30 : DfOk G0 df30 := ⟨C8.fnScope_by (by decide +kernel), by kernel_rfl, fun _ _ _ _ _ _ us hl => match us, hl with | [_], _ => rfl, by kernel_rfl⟩
/-- _law_drawn(cup): 0 cup -/
def bd31 : MS := (sQ (sR (mCall 27 (aC (mV 0) (aC (mLst (aC (mTup (aC (mC (.int (0))) (aC (mC (.int (1))) aN))) (aC (mTup (aC (mC (.int (0))) (aC (mC (.int (1))) aN))) (aC (mTup (aC (mC (.int (1))) (aC (mC (.int (1))) aN))) (aC (mTup (aC (mC (.int (1))) (aC (mC (.int (2))) aN))) (aC (mTup (aC (m1 opNeg (mC (.int (1)))) (aC (mC (.int (2))) aN))) (aC (mTup (aC (mC (.int (1))) (aC (mC (.int (3))) aN))) (aC (mTup (aC (mC (.int (2))) (aC (mC (.int (3))) aN))) (aC (mTup (aC (m1 opNeg (mC (.int (1)))) (aC (mC (.int (1))) aN))) (aC (mTup (aC (mC (.int (1))) (aC (mC (.int (4))) aN))) (aC (mTup (aC (mC (.int (3))) (aC (mC (.int (2))) aN))) aN))))))))))) aN))))
    sN)
def df31 : Df := ⟨"_law_drawn", top 50, ["cup"], [[99, 117, 112]], [([99, 117, 112], .local), ([95, 108, 97, 119, 95, 115, 111, 109, 101], .globalImplicit)], bd31, false⟩
theorem ok31 : DfOk G0 df31 := ⟨C8.fnScope_by (by decide +kernel), by kernel_rfl, fun _ _ _ _ _ _ us hl => match us, hl with | [_], _ => rfl, by kernel_rfl⟩
/-- _law_rule(cup, stages): 0 cup, 1 stages, 2 rows, 3 .0, 4 row, 5 own -/
def bd32 : MS := (sQ (sS 2 (mL bTup (aC (mLc [3, 4] (gV 4) tYe (mL bTup (aC (mLc [3, 5] (gV 5) tYe (mCall 31 (aC (mV 0) aN)) (iR (aC (mV 1) aN))) aN)) (iR (aC (mV 1) aN))) aN)))
    (sQ (sR (mTup (aC (mV 2) (aC (mL bTup (aC (mLc [3, 5] (gV 5) tYe (mCall 31 (aC (mV 0) aN)) (iR (aC (mV 1) aN))) aN)) aN))))
    sN))
def df32 : Df := ⟨"_law_rule", top 51, ["cup", "stages"], [[99, 117, 112], [115, 116, 97, 103, 101, 115], [114, 111, 119, 115], [46, 48], [114, 111, 119], [111, 119, 110]], [([99, 117, 112], .cell), ([115, 116, 97, 103, 101, 115], .cell), ([114, 111, 119, 115], .local), ([116, 117, 112, 108, 101], .globalImplicit), ([114, 97, 110, 103, 101], .globalImplicit)], bd32, false⟩
theorem ok32 : DfOk G0 df32 := ⟨C8.fnScope_by (by decide +kernel), by kernel_rfl, fun _ _ _ _ _ _ us hl => match us, hl with | [_, _], _ => rfl, by kernel_rfl⟩
/-- _law_behind(one, other): 0 one, 1 other, 2 many, 3 more, 4 rows, 5 at, 6 row, 7 spot -/
def bd33 : MS := (sQ (sP2 2 3 (aC (mL bLen (aC (m2 oIx (mV 0) (mC (.int (1)))) aN)) (aC (mL bLen (aC (m2 oIx (mV 1) (mC (.int (1)))) aN)) aN)))
    (sQ (sS 4 (mLst aN))
    (sQ (sFo (gV 5) (iR (aC (m2 opAdd (mV 2) (mV 3)) aN)) (sQ (sS 6 (mLst aN))
    (sQ (sFo (gV 7) (iR (aC (m2 opAdd (mV 2) (mV 3)) aN)) (sQ (sI (tBl (m2 (cInt fun i j => decide (i < j)) (mV 5) (mV 2))) (sQ (sX (mMt 1 mApp (mV 6) (aC (mIf (tBl (m2 (cInt fun i j => decide (i < j)) (mV 7) (mV 2))) (m2 oIx (m2 oIx (m2 oIx (mV 0) (mC (.int (0)))) (mV 5)) (mV 7)) (mTup (aC (mC (.int (0))) (aC (mC (.int (1))) aN)))) aN)))
    sN) (sQ (sX (mMt 1 mApp (mV 6) (aC (mIf (tBl (m2 (cInt fun i j => decide (i < j)) (mV 7) (mV 2))) (m2 oIx (m2 oIx (mV 0) (mC (.int (1)))) (mV 7)) (m2 oIx (m2 oIx (m2 oIx (mV 1) (mC (.int (0)))) (m2 opSub (mV 5) (mV 2))) (m2 opSub (mV 7) (mV 2)))) aN)))
    sN))
    sN))
    (sQ (sX (mMt 1 mApp (mV 4) (aC (mL bTup (aC (mV 6) aN)) aN)))
    sN))))
    (sQ (sR (mTup (aC (mL bTup (aC (mV 4) aN)) (aC (m2 opAdd (m2 oIx (mV 0) (mC (.int (1)))) (m2 oIx (mV 1) (mC (.int (1))))) aN))))
    sN))))
def df33 : Df := ⟨"_law_behind", top 52, ["one", "other"], [[111, 110, 101], [111, 116, 104, 101, 114], [109, 97, 110, 121], [109, 111, 114, 101], [114, 111, 119, 115], [97, 116], [114, 111, 119], [115, 112, 111, 116]], [([111, 110, 101], .local), ([111, 116, 104, 101, 114], .local), ([109, 97, 110, 121], .local), ([109, 111, 114, 101], .local), ([114, 111, 119, 115], .local), ([97, 116], .local), ([114, 111, 119], .local), ([115, 112, 111, 116], .local), ([108, 101, 110], .globalImplicit), ([114, 97, 110, 103, 101], .globalImplicit), ([116, 117, 112, 108, 101], .globalImplicit)], bd33, false⟩
theorem ok33 : DfOk G0 df33 := ⟨C8.fnScope_by (by decide +kernel), by kernel_rfl, fun _ _ _ _ _ _ us hl => match us, hl with | [_, _], _ => rfl, by kernel_rfl⟩
/-- _law_places(rule): 0 rule, 1 rows, 2 ends, 3 found, 4 place, 5 ahead, 6 at, 7 row, 8 spot, 9 own -/
def bd34 : MS := (sQ (sP3 1 2 3 (aC (m2 oIx (mV 0) (mC (.int (0)))) (aC (m2 oIx (mV 0) (mC (.int (1)))) (aC (mLst aN) aN))))
    (sQ (sFo (gV 4) (iR (aC (mC (.int (1))) (aC (mL bLen (aC (mV 2) aN)) aN))) (sQ (sS 5 (mLst aN))
    (sQ (sFo (gT (gC (gV 6) (gC (gV 7) gN))) (iE (aC (mV 1) aN)) (sQ (sFo (gT (gC (gV 8) (gC (gV 9) gN))) (iE (aC (mV 7) aN)) (sQ (sI (tO (tAn (tBl (m2 (cInt fun i j => decide (i < j)) (mV 6) (mV 4))) (tAn (tBl (m2 (cInt fun i j => decide (j ≤ i)) (mV 8) (mV 4))) (tBl (m2 cNe (m2 oIx (mV 9) (mC (.int (0)))) (mC (.int (0))))))) (tAn (tBl (m2 (cInt fun i j => decide (j ≤ i)) (mV 6) (mV 4))) (tAn (tBl (m2 (cInt fun i j => decide (i < j)) (mV 8) (mV 4))) (tBl (m2 cNe (mV 9) (m2 oIx (mV 2) (mV 8))))))) (sQ (sX (mMt 1 mApp (mV 5) (aC (mTup (aC (mV 6) (aC (mV 8) aN))) aN)))
    sN) sN)
    sN))
    sN))
    (sQ (sS 3 (m2 opAdd (mV 3) (mIf (tBl (m2 cEq (mV 5) (mLst aN))) (mLst (aC (mV 4) aN)) (mLst aN))))
    sN))))
    (sQ (sR (mV 3))
    sN)))
def df34 : Df := ⟨"_law_places", top 53, ["rule"], [[114, 117, 108, 101], [114, 111, 119, 115], [101, 110, 100, 115], [102, 111, 117, 110, 100], [112, 108, 97, 99, 101], [97, 104, 101, 97, 100], [97, 116], [114, 111, 119], [115, 112, 111, 116], [111, 119, 110]], [([114, 117, 108, 101], .local), ([114, 111, 119, 115], .local), ([101, 110, 100, 115], .local), ([102, 111, 117, 110, 100], .local), ([112, 108, 97, 99, 101], .local), ([97, 104, 101, 97, 100], .local), ([97, 116], .local), ([114, 111, 119], .local), ([115, 112, 111, 116], .local), ([111, 119, 110], .local), ([114, 97, 110, 103, 101], .globalImplicit), ([108, 101, 110], .globalImplicit), ([101, 110, 117, 109, 101, 114, 97, 116, 101], .globalImplicit)], bd34, false⟩
theorem ok34 : DfOk G0 df34 := ⟨C8.fnScope_by (by decide +kernel), by kernel_rfl, fun _ _ _ _ _ _ us hl => match us, hl with | [_], _ => rfl, by kernel_rfl⟩
/-- _law_part(rule, low, high): 0 rule, 1 low, 2 high, 3 rows, 4 at, 5 .0, 6 spot -/
def bd35 : MS := (sQ (sS 3 (mLst aN))
    (sQ (sFo (gV 4) (iR (aC (mV 1) (aC (mV 2) aN))) (sQ (sX (mMt 1 mApp (mV 3) (aC (mL bTup (aC (mLc [5, 6] (gV 6) tYe (m2 oIx (m2 oIx (m2 oIx (mV 0) (mC (.int (0)))) (mV 4)) (mV 6)) (iR (aC (mV 1) (aC (mV 2) aN)))) aN)) aN)))
    sN))
    (sQ (sR (mTup (aC (mL bTup (aC (mV 3) aN)) (aC (mL bTup (aC (mLc [5, 6] (gV 6) tYe (m2 oIx (m2 oIx (mV 0) (mC (.int (1)))) (mV 6)) (iR (aC (mV 1) (aC (mV 2) aN)))) aN)) aN))))
    sN)))
def df35 : Df := ⟨"_law_part", top 54, ["rule", "low", "high"], [[114, 117, 108, 101], [108, 111, 119], [104, 105, 103, 104], [114, 111, 119, 115], [97, 116], [46, 48], [115, 112, 111, 116]], [([114, 117, 108, 101], .cell), ([108, 111, 119], .local), ([104, 105, 103, 104], .local), ([114, 111, 119, 115], .local), ([97, 116], .cell), ([114, 97, 110, 103, 101], .globalImplicit), ([116, 117, 112, 108, 101], .globalImplicit)], bd35, false⟩
theorem ok35 : DfOk G0 df35 := ⟨C8.fnScope_by (by decide +kernel), by kernel_rfl, fun _ _ _ _ _ _ us hl => match us, hl with | [_, _, _], _ => rfl, by kernel_rfl⟩
/-- _law_rule_right(rule): 0 rule, 1 places, 2 many, 3 first, 4 second, 5 ends, 6 parts, 7 place, 8 .0, 9 low, 10 high, 11 part -/
def bd36 : MS := (sQ (sS 1 (mCall 34 (aC (mV 0) aN)))
    (sQ (sS 2 (mL bLen (aC (m2 oIx (mV 0) (mC (.int (1)))) aN)))
    (sQ (sI (tNo (tTru (mCall 29 (aC (mCall 12 (aC (mV 0) aN)) (aC (mL bTup (aC (mV 1) aN)) aN))))) (sQ (sR (mC (.bl false)))
    sN) sN)
    (sQ (sFo (gV 7) (iR (aC (mC (.int (0))) (aC (m2 opAdd (mV 2) (mC (.int (1)))) aN))) (sQ (sI (tBl (m2 cNi (mV 7) (mV 1))) (sQ (sI (tBl (m2 cNe (mLam 30 (mCall 13 (aC (mV 0) (aC (mV 7) aN)))) (mC (.str [110, 117, 109, 98, 101, 114])))) (sQ (sR (mC (.bl false)))
    sN) sN)
    (sQ sCt
    sN)) sN)
    (sQ (sP2 3 4 (aC (mCall 35 (aC (mV 0) (aC (mC (.int (0))) (aC (mV 7) aN)))) (aC (mCall 35 (aC (mV 0) (aC (mV 7) (aC (mV 2) aN)))) aN)))
    (sQ (sI (tNo (tTru (mCall 29 (aC (mCall 13 (aC (mV 0) (aC (mV 7) aN))) (aC (mTup (aC (mV 3) (aC (mV 4) aN))) aN))))) (sQ (sR (mC (.bl false)))
    sN) sN)
    (sQ (sI (tNo (tTru (mCall 29 (aC (mCall 22 (aC (mV 3) (aC (mV 4) (aC (mTup (aC (mC (.int (1))) (aC (mC (.int (1))) aN))) (aC (mTup (aC (mC (.int (1))) (aC (mC (.int (1))) aN))) aN))))) (aC (mV 0) aN))))) (sQ (sR (mC (.bl false)))
    sN) sN)
    sN)))))
    (sQ (sS 5 (m2 opAdd (m2 opAdd (mLst (aC (mC (.int (0))) aN)) (mV 1)) (mLst (aC (mV 2) aN))))
    (sQ (sS 6 (mL bTup (aC (mLc [8, 9, 10] (gT (gC (gV 9) (gC (gV 10) gN))) tYe (mCall 35 (aC (mV 0) (aC (mV 9) (aC (mV 10) aN)))) (iZ (aC (mV 5) (aC (mSl (mV 5) (some (mC (.int (1)))) none) aN)))) aN)))
    (sQ (sI (tNo (tTru (mCall 29 (aC (mCall 14 (aC (mV 0) aN)) (aC (mV 6) aN))))) (sQ (sR (mC (.bl false)))
    sN) sN)
    (sQ (sR (m2 cEq (mLc [8, 11] (gV 11) (tBl (m2 cNe (mCall 34 (aC (mV 11) aN)) (mLst aN))) (mV 11) (iA (mV 6))) (mLst aN)))
    sN))))))))
def df36 : Df := ⟨"_law_rule_right", top 55, ["rule"], [[114, 117, 108, 101], [112, 108, 97, 99, 101, 115], [109, 97, 110, 121], [102, 105, 114, 115, 116], [115, 101, 99, 111, 110, 100], [101, 110, 100, 115], [112, 97, 114, 116, 115], [112, 108, 97, 99, 101], [46, 48], [108, 111, 119], [104, 105, 103, 104], [112, 97, 114, 116]], [([114, 117, 108, 101], .cell), ([112, 108, 97, 99, 101, 115], .local), ([109, 97, 110, 121], .local), ([102, 105, 114, 115, 116], .local), ([115, 101, 99, 111, 110, 100], .local), ([101, 110, 100, 115], .local), ([112, 97, 114, 116, 115], .local), ([112, 108, 97, 99, 101], .cell), ([95, 108, 97, 119, 95, 112, 108, 97, 99, 101, 115], .globalImplicit), ([108, 101, 110], .globalImplicit), ([95, 108, 97, 119, 95, 108, 105, 107, 101], .globalImplicit), ([112, 97, 114, 116, 105, 110, 103, 95, 112, 108, 97, 99, 101, 115], .globalImplicit), ([116, 117, 112, 108, 101], .globalImplicit), ([114, 97, 110, 103, 101], .globalImplicit), ([95, 108, 97, 119, 95, 101, 114, 114, 111, 114], .globalImplicit), ([95, 108, 97, 119, 95, 112, 97, 114, 116], .globalImplicit), ([112, 97, 114, 116, 101, 100, 95, 97, 116], .globalImplicit), ([106, 111, 105, 110, 101, 100, 95, 114, 117, 108, 101, 115], .globalImplicit), ([122, 105, 112], .globalImplicit), ([112, 97, 114, 116, 101, 100, 95, 119, 104, 111, 108, 108, 121], .globalImplicit)], bd36, true⟩
theorem ok36 : DfOk G0 df36 := ⟨C8.fnScope_by (by decide +kernel), by kernel_rfl, fun _ _ _ _ _ _ us hl => match us, hl with | [_], _ => rfl, by kernel_rfl⟩
/-- _law_right(cup): 0 cup, 1 found, 2 places, 3 turn, 4 many, 5 at, 6 spot, 7 number, 8 row, 9 bent, 10 turned, 11 .0, 12 place -/
def bd37 : MS := (sQ (sG (gT (gC (gV 1) (gC (gV 2) gN))) (mTup (aC (mCall 32 (aC (mV 0) (aC (m2 opAdd (mC (.int (1))) (mCall 26 (aC (mV 0) (aC (mC (.int (2))) aN)))) aN))) (aC (mLst aN) aN))))
    (sQ (sFo (gV 3) (iR (aC (mCall 26 (aC (mV 0) (aC (mC (.int (3))) aN))) aN)) (sQ (sX (mMt 1 mApp (mV 2) (aC (mL bLen (aC (m2 oIx (mV 1) (mC (.int (1)))) aN)) aN)))
    (sQ (sS 1 (mCall 33 (aC (mV 1) (aC (mCall 32 (aC (mV 0) (aC (m2 opAdd (mC (.int (1))) (mCall 26 (aC (mV 0) (aC (mC (.int (2))) aN)))) aN))) aN))))
    sN)))
    (sQ (sI (tO (tBl (m2 cNe (mLc [11, 12] (gV 12) (tBl (m2 cNi (mV 12) (mCall 12 (aC (mV 1) aN)))) (mV 12) (iA (mV 2))) (mLst aN))) (tNo (tTru (mCall 36 (aC (mV 1) aN))))) (sQ (sR (mC (.bl false)))
    sN) sN)
    (sQ (sS 4 (mL bLen (aC (m2 oIx (mV 1) (mC (.int (1)))) aN)))
    (sQ (sP3 5 6 7 (aC (mCall 26 (aC (mV 0) (aC (mV 4) aN))) (aC (mCall 26 (aC (mV 0) (aC (mV 4) aN))) (aC (mCall 31 (aC (mV 0) aN)) aN))))
    (sQ (sS 8 (m2 opAdd (m2 opAdd (mSl (m2 oIx (m2 oIx (mV 1) (mC (.int (0)))) (mV 5)) none (some (mV 6))) (mTup (aC (mV 7) aN))) (mSl (m2 oIx (m2 oIx (mV 1) (mC (.int (0)))) (mV 5)) (some (m2 opAdd (mV 6) (mC (.int (1))))) none)))
    (sQ (sS 9 (mTup (aC (m2 opAdd (m2 opAdd (mSl (m2 oIx (mV 1) (mC (.int (0)))) none (some (mV 5))) (mTup (aC (mV 8) aN))) (mSl (m2 oIx (mV 1) (mC (.int (0)))) (some (m2 opAdd (mV 5) (mC (.int (1))))) none)) (aC (m2 oIx (mV 1) (mC (.int (1)))) aN))))
    (sQ (sS 10 (mTup (aC (m2 oIx (mV 1) (mC (.int (0)))) (aC (m2 opAdd (m2 opAdd (mSl (m2 oIx (mV 1) (mC (.int (1)))) none (some (mV 6))) (mTup (aC (mV 7) aN))) (mSl (m2 oIx (mV 1) (mC (.int (1)))) (some (m2 opAdd (mV 6) (mC (.int (1))))) none)) aN))))
    (sQ (sR (mAn (mCall 36 (aC (mV 9) aN)) (mAn (mCall 36 (aC (mV 10) aN)) (mCall 36 (aC (mCall 32 (aC (mV 0) (aC (m2 opAdd (mC (.int (1))) (mCall 26 (aC (mV 0) (aC (mC (.int (3))) aN)))) aN))) aN)))))
    sN)))))))))
def df37 : Df := ⟨"_law_right", top 56, ["cup"], [[99, 117, 112], [102, 111, 117, 110, 100], [112, 108, 97, 99, 101, 115], [116, 117, 114, 110], [109, 97, 110, 121], [97, 116], [115, 112, 111, 116], [110, 117, 109, 98, 101, 114], [114, 111, 119], [98, 101, 110, 116], [116, 117, 114, 110, 101, 100], [46, 48], [112, 108, 97, 99, 101]], [([99, 117, 112], .local), ([102, 111, 117, 110, 100], .cell), ([112, 108, 97, 99, 101, 115], .local), ([116, 117, 114, 110], .local), ([109, 97, 110, 121], .local), ([97, 116], .local), ([115, 112, 111, 116], .local), ([110, 117, 109, 98, 101, 114], .local), ([114, 111, 119], .local), ([98, 101, 110, 116], .local), ([116, 117, 114, 110, 101, 100], .local), ([95, 108, 97, 119, 95, 114, 117, 108, 101], .globalImplicit), ([95, 108, 97, 119, 95, 114, 111, 108, 108], .globalImplicit), ([114, 97, 110, 103, 101], .globalImplicit), ([108, 101, 110], .globalImplicit), ([95, 108, 97, 119, 95, 98, 101, 104, 105, 110, 100], .globalImplicit), ([95, 108, 97, 119, 95, 114, 117, 108, 101, 95, 114, 105, 103, 104, 116], .globalImplicit), ([95, 108, 97, 119, 95, 100, 114, 97, 119, 110], .globalImplicit)], bd37, false⟩
theorem ok37 : DfOk G0 df37 := ⟨C8.fnScope_by (by decide +kernel), by kernel_rfl, fun _ _ _ _ _ _ us hl => match us, hl with | [_], _ => rfl, by kernel_rfl⟩
/-- _law_great_right(): 0 z, 1 h, 2 half, 3 six, 4 none, 5 told, 6 part, 7 due -/
def bd38 : MS := (sQ (sG (gT (gC (gV 0) (gC (gV 1) gN))) (mTup (aC (mTup (aC (mC (.int (0))) (aC (mC (.int (1))) aN))) (aC (mTup (aC (mC (.int (1))) (aC (mC (.int (2))) aN))) aN))))
    (sQ (sS 2 (mTup (aC (mTup (aC (mTup (aC (mV 1) aN)) aN)) (aC (mTup (aC (mTup (aC (mC (.int (1))) (aC (mC (.int (1))) aN))) aN)) aN))))
    (sQ (sP2 3 4 (aC (mCall 24 (aC (mV 2) (aC (mC (.int (6))) aN))) (aC (mTup (aC (m2 opMul (mTup (aC (m2 opMul (mTup (aC (mV 0) aN)) (mC (.int (6)))) aN)) (mC (.int (6)))) (aC (m2 opMul (mTup (aC (mV 0) aN)) (mC (.int (6)))) aN))) aN)))
    (sQ (sS 5 (mLst (aC (mCall 12 (aC (mV 3) aN)) (aC (mCall 14 (aC (mV 3) aN)) (aC (mCall 12 (aC (mV 4) aN)) (aC (m2 oIx (mCall 13 (aC (mV 3) (aC (mC (.int (4))) aN))) (mC (.int (1)))) (aC (mCall 14 (aC (mV 4) aN)) aN)))))))
    (sQ (sS 6 (mCall 17 (aC (mV 2) (aC (mTup (aC (mC (.int (1))) (aC (mC (.int (6))) aN))) aN))))
    (sQ (sS 7 (mLst (aC (mTup (aC (mC (.int (1))) (aC (mC (.int (2))) (aC (mC (.int (3))) (aC (mC (.int (4))) (aC (mC (.int (5))) aN)))))) (aC (m2 opMul (mTup (aC (mV 6) aN)) (mC (.int (6)))) (aC (mTup (aC (mC (.int (1))) (aC (mC (.int (2))) (aC (mC (.int (3))) (aC (mC (.int (4))) (aC (mC (.int (5))) aN)))))) (aC (mCall 33 (aC (mV 6) (aC (mV 6) aN))) (aC (m2 opMul (mTup (aC (mTup (aC (mTup (aC (mTup (aC (mV 0) aN)) aN)) (aC (mTup (aC (mV 0) aN)) aN))) aN)) (mC (.int (6)))) aN)))))))
    (sQ (sR (mCall 29 (aC (mV 5) (aC (mV 7) aN))))
    sN)))))))
def df38 : Df := ⟨"_law_great_right", top 57, [], [[122], [104], [104, 97, 108, 102], [115, 105, 120], [110, 111, 110, 101], [116, 111, 108, 100], [112, 97, 114, 116], [100, 117, 101]], [([122], .local), ([104], .local), ([104, 97, 108, 102], .local), ([115, 105, 120], .local), ([110, 111, 110, 101], .local), ([116, 111, 108, 100], .local), ([112, 97, 114, 116], .local), ([100, 117, 101], .local), ([114, 101, 112, 101, 97, 116, 101, 100, 95, 114, 117, 108, 101], .globalImplicit), ([112, 97, 114, 116, 105, 110, 103, 95, 112, 108, 97, 99, 101, 115], .globalImplicit), ([112, 97, 114, 116, 101, 100, 95, 119, 104, 111, 108, 108, 121], .globalImplicit), ([112, 97, 114, 116, 101, 100, 95, 97, 116], .globalImplicit), ([115, 105, 122, 101, 100, 95, 114, 117, 108, 101], .globalImplicit), ([95, 108, 97, 119, 95, 98, 101, 104, 105, 110, 100], .globalImplicit), ([95, 108, 97, 119, 95, 108, 105, 107, 101], .globalImplicit)], bd38, false⟩
theorem ok38 : DfOk G0 df38 := ⟨C8.fnScope_by (by decide +kernel), by kernel_rfl, fun _ _ _ _ _ _ us hl => match us, hl with | [], _ => rfl, by kernel_rfl⟩
/-- _law_errors_right(): 0 words, 1 odd, 2 m, 3 none, 4 o, 5 z, 6 .0, 7 call -/
def bd39 : MS := (sQ (sG (gT (gC (gV 5) (gC (gV 4) (gC (gV 0) gN)))) (mTup (aC (mTup (aC (mC (.int (0))) (aC (mC (.int (1))) aN))) (aC (mTup (aC (mC (.int (1))) (aC (mC (.int (1))) aN))) (aC (mLst aN) aN)))))
    (sQ (sS 2 (mTup (aC (mTup (aC (mTup (aC (mV 5) aN)) aN)) (aC (mTup (aC (mV 4) aN)) aN))))
    (sQ (sFo (gV 1) (iA (mTup (aC (mC .non) (aC (mTup aN) (aC (m2 oIx (mV 2) (mC (.int (0)))) (aC (mTup (aC (m2 oIx (mV 2) (mC (.int (0)))) (aC (mTup aN) aN))) (aC (mLst (aC (m2 oIx (mV 2) (mC (.int (0)))) (aC (m2 oIx (mV 2) (mC (.int (1)))) aN))) (aC (mTup (aC (m2 oIx (mV 2) (mC (.int (0)))) (aC (mTup (aC (mTup (aC (mC (.int (2))) (aC (mC (.int (2))) aN))) aN)) aN))) (aC (mTup (aC (m2 opMul (mTup (aC (m2 opMul (mTup (aC (mV 5) aN)) (mC (.int (7)))) aN)) (mC (.int (7)))) (aC (m2 opMul (mTup (aC (mV 5) aN)) (mC (.int (7)))) aN))) (aC (mTup (aC (mTup aN) (aC (mTup aN) aN))) (aC (mC (.int (5))) aN))))))))))) (sQ (sS 0 (m2 opAdd (mV 0) (mLc [6, 7] (gV 7) tYe (mLam 30 (mCallV G0.isF 7 (aC (mV 1) aN))) (iA (mTup (aC (mC (.g 12)) (aC (mC (.g 14)) aN)))))))
    (sQ (sX (mMt 1 mApp (mV 0) (aC (mLam 30 (mCall 13 (aC (mV 1) (aC (mC .non) aN)))) aN)))
    sN)))
    (sQ (sI (tBl (m2 cNe (mV 0) (m2 opMul (mLst (aC (mC (.str [114, 117, 108, 101])) aN)) (mC (.int (27)))))) (sQ (sR (mC (.bl false)))
    sN) sN)
    (sQ (sS 3 (mTup (aC (mTup (aC (mTup (aC (mV 5) (aC (mV 5) aN))) (aC (mTup (aC (mV 5) (aC (mV 5) aN))) aN))) (aC (mTup (aC (mV 5) (aC (mV 5) aN))) aN))))
    (sQ (sS 0 (mLc [6, 1] (gV 1) tYe (mLam 30 (mCall 13 (aC (mV 3) (aC (mV 1) aN)))) (iA (mTup (aC (mC .non) (aC (mC (.int (0))) (aC (mC (.int (2))) (aC (m1 opNeg (mC (.int (1)))) (aC (mC (.bl true)) (aC (mC (.str [49])) (aC (mTup (aC (mC (.int (1))) aN)) (aC (mC (.int (3))) aN))))))))))))
    (sQ (sS 0 (m2 opAdd (mV 0) (mLc [6, 1] (gV 1) tYe (mLam 30 (mCall 13 (aC (mV 2) (aC (mV 1) aN)))) (iA (mTup (aC (mC (.int (0))) (aC (mC (.int (1))) aN)))))))
    (sQ (sX (mMt 1 mApp (mV 0) (aC (mLam 30 (mCall 13 (aC (mTup (aC (mTup (aC (mTup (aC (mV 5) (aC (mV 4) aN))) (aC (mTup (aC (mV 5) (aC (mV 5) aN))) aN))) (aC (mTup (aC (mV 5) (aC (mV 5) aN))) aN))) (aC (mC (.int (1))) aN)))) aN)))
    (sQ (sR (m2 cEq (mV 0) (m2 opMul (mLst (aC (mC (.str [110, 117, 109, 98, 101, 114])) aN)) (mC (.int (11))))))
    sN)))))))))
def df39 : Df := ⟨"_law_errors_right", top 58, [], [[119, 111, 114, 100, 115], [111, 100, 100], [109], [110, 111, 110, 101], [111], [122], [46, 48], [99, 97, 108, 108]], [([119, 111, 114, 100, 115], .local), ([111, 100, 100], .cell), ([109], .cell), ([110, 111, 110, 101], .cell), ([111], .cell), ([122], .cell), ([112, 97, 114, 116, 105, 110, 103, 95, 112, 108, 97, 99, 101, 115], .globalImplicit), ([112, 97, 114, 116, 101, 100, 95, 119, 104, 111, 108, 108, 121], .globalImplicit), ([95, 108, 97, 119, 95, 101, 114, 114, 111, 114], .globalImplicit)], bd39, true⟩
theorem ok39 : DfOk G0 df39 := ⟨C8.fnScope_by (by decide +kernel), by kernel_rfl, fun _ _ _ _ _ _ us hl => match us, hl with | [], _ => rfl, by kernel_rfl⟩
/-- _law_written_right(): 0 z, 1 o, 2 h, 3 left, 4 half, 5 right, 6 mean, 7 told, 8 due, 9 four -/
def bd40 : MS := (sQ (sG (gT (gC (gV 0) (gC (gV 1) (gC (gV 2) gN)))) (mTup (aC (mTup (aC (mC (.int (0))) (aC (mC (.int (1))) aN))) (aC (mTup (aC (mC (.int (1))) (aC (mC (.int (1))) aN))) (aC (mTup (aC (mC (.int (1))) (aC (mC (.int (2))) aN))) aN)))))
    (sQ (sP3 3 4 5 (aC (mTup (aC (mTup (aC (mTup (aC (mV 0) aN)) aN)) (aC (mTup (aC (mV 1) aN)) aN))) (aC (mTup (aC (mTup (aC (mTup (aC (mV 2) aN)) aN)) (aC (mTup (aC (mV 1) aN)) aN))) (aC (mTup (aC (mTup (aC (mTup (aC (mV 1) aN)) aN)) (aC (mTup (aC (mV 1) aN)) aN))) aN))))
    (sQ (sS 6 (mTup (aC (mTup (aC (mTup (aC (mV 0) (aC (mV 0) aN))) (aC (mTup (aC (mV 2) (aC (mV 2) aN))) aN))) (aC (mTup (aC (mV 2) (aC (mV 2) aN))) aN))))
    (sQ (sS 7 (mLst (aC (mCall 12 (aC (mV 6) aN)) (aC (mCall 13 (aC (mV 6) (aC (mC (.int (1))) aN))) (aC (mCall 12 (aC (mV 4) aN)) (aC (mCall 14 (aC (mCall 24 (aC (mV 4) (aC (mC (.int (3))) aN))) aN)) aN))))))
    (sQ (sS 8 (mLst (aC (mTup (aC (mC (.int (1))) aN)) (aC (mTup (aC (mTup (aC (mTup (aC (mTup (aC (mV 0) aN)) aN)) (aC (mTup (aC (mV 2) aN)) aN))) (aC (mTup (aC (mTup (aC (mTup (aC (mV 2) aN)) aN)) (aC (mTup (aC (mV 2) aN)) aN))) aN))) (aC (mTup aN) (aC (m2 opMul (mTup (aC (mCall 17 (aC (mV 4) (aC (mTup (aC (mC (.int (1))) (aC (mC (.int (3))) aN))) aN))) aN)) (mC (.int (3)))) aN))))))
    (sQ (sS 7 (m2 opAdd (mV 7) (mLst (aC (mCall 12 (aC (mCall 22 (aC (mV 5) (aC (mV 3) (aC (mV 2) (aC (mV 2) aN))))) aN)) (aC (mCall 12 (aC (mTup (aC (mTup (aC (mTup (aC (mV 0) (aC (mV 0) aN))) (aC (mTup (aC (mV 0) (aC (mV 2) aN))) aN))) (aC (mTup (aC (mV 1) (aC (mV 1) aN))) aN))) aN)) aN)))))
    (sQ (sS 8 (m2 opAdd (mV 8) (mLst (aC (mTup (aC (mC (.int (1))) aN)) (aC (mTup aN) aN)))))
    (sQ (sS 7 (m2 opAdd (mV 7) (mLst (aC (mCall 12 (aC (mTup (aC (mTup (aC (mTup (aC (mV 0) (aC (mV 0) aN))) (aC (mTup (aC (mV 1) (aC (mV 0) aN))) aN))) (aC (mTup (aC (mV 2) (aC (mV 2) aN))) aN))) aN)) (aC (mCall 12 (aC (mTup (aC (mTup (aC (mTup (aC (mV 0) (aC (mV 0) aN))) (aC (mTup (aC (mV 2) (aC (mV 0) aN))) aN))) (aC (mTup (aC (mV 0) (aC (mV 1) aN))) aN))) aN)) aN)))))
    (sQ (sS 7 (m2 opAdd (mV 7) (mLst (aC (mCall 12 (aC (mTup (aC (mTup (aC (mTup (aC (mV 1) (aC (mV 0) aN))) (aC (mTup (aC (mV 0) (aC (mV 1) aN))) aN))) (aC (mTup (aC (mV 0) (aC (mV 1) aN))) aN))) aN)) (aC (mCall 13 (aC (mTup (aC (mTup (aC (mTup (aC (mV 1) (aC (mV 0) aN))) (aC (mTup (aC (mV 0) (aC (mV 1) aN))) aN))) (aC (mTup (aC (mV 0) (aC (mV 1) aN))) aN))) (aC (mC (.int (1))) aN))) (aC (mCall 14 (aC (mV 6) aN)) aN))))))
    (sQ (sS 8 (m2 opAdd (mV 8) (mLst (aC (mTup aN) (aC (mTup aN) (aC (mTup (aC (mC (.int (1))) aN)) (aC (mTup (aC (mTup (aC (mTup (aC (mTup (aC (mV 1) aN)) aN)) (aC (mTup (aC (mV 0) aN)) aN))) (aC (mV 5) aN))) (aC (mTup (aC (mTup (aC (mTup (aC (mTup (aC (mV 0) aN)) aN)) (aC (mTup (aC (mV 2) aN)) aN))) (aC (mTup (aC (mTup (aC (mTup (aC (mV 2) aN)) aN)) (aC (mTup (aC (mV 2) aN)) aN))) aN))) aN))))))))
    (sQ (sS 9 (mTup (aC (mTup (aC (mTup (aC (mV 0) (aC (mV 0) (aC (mV 0) (aC (mV 0) aN))))) (aC (mTup (aC (mV 2) (aC (mV 0) (aC (mV 0) (aC (mV 0) aN))))) (aC (mTup (aC (mV 0) (aC (mV 2) (aC (mV 0) (aC (mV 0) aN))))) (aC (mTup (aC (mV 0) (aC (mV 0) (aC (mV 1) (aC (mV 0) aN))))) aN))))) (aC (mTup (aC (mTup (aC (mC (.int (1))) (aC (mC (.int (6))) aN))) (aC (mTup (aC (mC (.int (1))) (aC (mC (.int (3))) aN))) (aC (mTup (aC (mC (.int (1))) (aC (mC (.int (3))) aN))) (aC (mTup (aC (mC (.int (1))) (aC (mC (.int (6))) aN))) aN))))) aN))))
    (sQ (sS 7 (m2 opAdd (mV 7) (mLst (aC (mCall 12 (aC (mV 9) aN)) (aC (mCall 14 (aC (mV 9) aN)) (aC (mCall 14 (aC (mV 3) aN)) aN))))))
    (sQ (sR (mCall 29 (aC (mV 7) (aC (m2 opAdd (mV 8) (mLst (aC (mTup aN) (aC (mTup (aC (mV 9) aN)) (aC (mTup (aC (mV 3) aN)) aN))))) aN))))
    sN)))))))))))))
def df40 : Df := ⟨"_law_written_right", top 59, [], [[122], [111], [104], [108, 101, 102, 116], [104, 97, 108, 102], [114, 105, 103, 104, 116], [109, 101, 97, 110], [116, 111, 108, 100], [100, 117, 101], [102, 111, 117, 114]], [([122], .local), ([111], .local), ([104], .local), ([108, 101, 102, 116], .local), ([104, 97, 108, 102], .local), ([114, 105, 103, 104, 116], .local), ([109, 101, 97, 110], .local), ([116, 111, 108, 100], .local), ([100, 117, 101], .local), ([102, 111, 117, 114], .local), ([112, 97, 114, 116, 105, 110, 103, 95, 112, 108, 97, 99, 101, 115], .globalImplicit), ([112, 97, 114, 116, 101, 100, 95, 97, 116], .globalImplicit), ([112, 97, 114, 116, 101, 100, 95, 119, 104, 111, 108, 108, 121], .globalImplicit), ([114, 101, 112, 101, 97, 116, 101, 100, 95, 114, 117, 108, 101], .globalImplicit), ([115, 105, 122, 101, 100, 95, 114, 117, 108, 101], .globalImplicit), ([106, 111, 105, 110, 101, 100, 95, 114, 117, 108, 101, 115], .globalImplicit), ([95, 108, 97, 119, 95, 108, 105, 107, 101], .globalImplicit)], bd40, false⟩
theorem ok40 : DfOk G0 df40 := ⟨C8.fnScope_by (by decide +kernel), by kernel_rfl, fun _ _ _ _ _ _ us hl => match us, hl with | [], _ => rfl, by kernel_rfl⟩
/-- law(script): 0 script, 1 cup, 2 turn -/
def bd41 : MS := (sQ (sI (tO (tNo (tTru (mCall 40 aN))) (tO (tNo (tTru (mCall 39 aN))) (tNo (tTru (mCall 38 aN))))) (sQ (sR (mC (.bl false)))
    sN) sN)
    (sQ (sS 1 (mCall 25 (aC (mV 0) aN)))
    (sQ (sFo (gV 2) (iR (aC (mC (.int (8))) aN)) (sQ (sI (tNo (tTru (mCall 37 (aC (mV 1) aN)))) (sQ (sR (mC (.bl false)))
    sN) sN)
    sN))
    (sQ (sR (mC (.bl true)))
    sN))))
def df41 : Df := ⟨"law", top 60, ["script"], [[115, 99, 114, 105, 112, 116], [99, 117, 112], [116, 117, 114, 110]], [([115, 99, 114, 105, 112, 116], .local), ([99, 117, 112], .local), ([116, 117, 114, 110], .local), ([95, 108, 97, 119, 95, 119, 114, 105, 116, 116, 101, 110, 95, 114, 105, 103, 104, 116], .globalImplicit), ([95, 108, 97, 119, 95, 101, 114, 114, 111, 114, 115, 95, 114, 105, 103, 104, 116], .globalImplicit), ([95, 108, 97, 119, 95, 103, 114, 101, 97, 116, 95, 114, 105, 103, 104, 116], .globalImplicit), ([95, 108, 97, 119, 95, 99, 117, 112], .globalImplicit), ([114, 97, 110, 103, 101], .globalImplicit), ([95, 108, 97, 119, 95, 114, 105, 103, 104, 116], .globalImplicit)], bd41, false⟩
theorem ok41 : DfOk G0 df41 := ⟨C8.fnScope_by (by decide +kernel), by kernel_rfl, fun _ _ _ _ _ _ us hl => match us, hl with | [_], _ => rfl, by kernel_rfl⟩
def defs : List Df := [df0, df1, df2, df3, df4, df5, df6, df7, df8, df9, df10, df11, df12, df13, df14, df15, df16, df17, df18, df19, df20, df21, df22, df23, df24, df25, df26, df27, df28, df29, df30, df31, df32, df33, df34, df35, df36, df37, df38, df39, df40, df41]
end Lk

set_option Elab.async false
set_option linter.all false
set_option maxRecDepth 100000
set_option maxHeartbeats 0
namespace Lk
open PySem PySem.Spec PyProof.Rows L2 Mi
def tfs : List He.Defn := tf.map fun x => (x, none)
def fnD : List He.DefD := defs.map Df.d
abbrev R : PySem.W.OpenRow := PySem.W.OpenLaw.row PySem.Challenge.rw_stepsgrafted_k31_whole_parted_rules
abbrev hk : PySem.W.Hook := He.hookX 5 [] fnD [] tfs (exB nms tf gl sl)
def ob (s : PySem.W.SharedT) : He.AlX := He.obsX 5 [] fnD [] tfs (exB nms tf gl sl) (HandSHeadRun.getT s)
theorem ob_eq (s : PySem.W.SharedT) : ob s = hk.obs s.abs := He.obsX_eq (HandSHeadRun.getT_eq s)
def loose : List Str := nms.take 41 ++ nms.drop 42 ++ (["STAGES", "ONE", "NOTHING", "OFTEN"] : List Str)
theorem run (w : World) : HandSHeadRun.RunEqI R (PySem.W.view R.prog [0, 60]) hk ob 20000 loose w := by
  unfold HandSHeadRun.RunEqI
  kernel_rfl
end Lk

set_option Elab.async false
set_option linter.all false
set_option maxRecDepth 100000
set_option maxHeartbeats 0
namespace Lk
open PySem PySem.Spec PyProof.Rows L2 Mi
theorem all_ok : ∀ D ∈ defs, DfOk G0 D := (ok_cons ok0 (ok_cons ok1 (ok_cons ok2 (ok_cons ok3 (ok_cons ok4 (ok_cons ok5 (ok_cons ok6 (ok_cons ok7 (ok_cons ok8 (ok_cons ok9 (ok_cons ok10 (ok_cons ok11 (ok_cons ok12 (ok_cons ok13 (ok_cons ok14 (ok_cons ok15 (ok_cons ok16 (ok_cons ok17 (ok_cons ok18 (ok_cons ok19 (ok_cons ok20 (ok_cons ok21 (ok_cons ok22 (ok_cons ok23 (ok_cons ok24 (ok_cons ok25 (ok_cons ok26 (ok_cons ok27 (ok_cons ok28 (ok_cons ok29 (ok_cons ok30 (ok_cons ok31 (ok_cons ok32 (ok_cons ok33 (ok_cons ok34 (ok_cons ok35 (ok_cons ok36 (ok_cons ok37 (ok_cons ok38 (ok_cons ok39 (ok_cons ok40 (ok_cons ok41 ok_nil))))))))))))))))))))))))))))))))))))))))))
theorem hD : defs[41]? = some df41 := rfl
theorem hn : 42 = defs.length := rfl
theorem hnm : ∀ (j : Nat) (D : Df), defs[j]? = some D → nms.getD j "" = D.nm := nmB_ok (by kernel_rfl)
theorem htf : ∀ D ∈ defs, D.lam = true → D.nm ∈ tf := tfB_ok (by kernel_rfl)
theorem hgl : lookN gl (nmOf df41.nm) = some (.fn 41) := by kernel_rfl
theorem hls : ∀ j ∈ [30], ∃ (D : Df) (a : Str), defs[j]? = some D ∧ D.ps = [a] ∧ (a == ("__debug__" : Str)) = false ∧ (a == ("__classdict__" : Str)) = false := fun j hj => by
  have e : j = 30 := List.mem_singleton.mp hj
  rw [e]
  exact ⟨df30, "call", rfl, rfl, by decide +kernel, by decide +kernel⟩
end Lk

set_option Elab.async false
set_option linter.all false
set_option maxRecDepth 100000
set_option maxHeartbeats 0
namespace Lk
open PySem PySem.Spec PyProof.Rows L2 Mi
def tb : Nat → Option Fd := tbOf defs
theorem e0 (k : Nat) (x0 x1 x2 : PV) (S : Sto) : (semT tb (k + 1)).c 0 [x0, x1, x2] S = fin S.length (outR (bd0 ⟨(semT tb k).c, (semT tb k).l, fun _ => .err⟩ [.pv x0, .pv x1, .pv x2] S)) := by kernel_rfl
theorem e1 (k : Nat) (x0 x1 x2 : PV) (S : Sto) : (semT tb (k + 1)).c 1 [x0, x1, x2] S = fin S.length (outR (bd1 ⟨(semT tb k).c, (semT tb k).l, fun _ => .err⟩ [.pv x0, .pv x1, .pv x2] S)) := by kernel_rfl
theorem e2 (k : Nat) (x0 x1 x2 : PV) (S : Sto) : (semT tb (k + 1)).c 2 [x0, x1, x2] S = fin S.length (outR (bd2 ⟨(semT tb k).c, (semT tb k).l, fun _ => .err⟩ [.pv x0, .pv x1, .pv x2] S)) := by kernel_rfl
theorem e3 (k : Nat) (x0 : PV) (S : Sto) : (semT tb (k + 1)).c 3 [x0] S = fin S.length (outR (bd3 ⟨(semT tb k).c, (semT tb k).l, fun _ => .err⟩ [.pv x0, .un, .un] S)) := by kernel_rfl
theorem e4 (k : Nat) (x0 : PV) (S : Sto) : (semT tb (k + 1)).c 4 [x0] S = fin S.length (outR (bd4 ⟨(semT tb k).c, (semT tb k).l, fun _ => .err⟩ [.pv x0] S)) := by kernel_rfl
theorem e5 (k : Nat) (x0 x1 : PV) (S : Sto) : (semT tb (k + 1)).c 5 [x0, x1] S = fin S.length (outR (bd5 ⟨(semT tb k).c, (semT tb k).l, fun _ => .err⟩ [.pv x0, .pv x1, .un] S)) := by kernel_rfl
theorem e6 (k : Nat) (x0 x1 : PV) (S : Sto) : (semT tb (k + 1)).c 6 [x0, x1] S = fin S.length (outR (bd6 ⟨(semT tb k).c, (semT tb k).l, fun _ => .err⟩ [.pv x0, .pv x1] S)) := by kernel_rfl
theorem e7 (k : Nat) (x0 : PV) (S : Sto) : (semT tb (k + 1)).c 7 [x0] S = fin S.length (outR (bd7 ⟨(semT tb k).c, (semT tb k).l, fun _ => .err⟩ [.pv x0, .un, .un, .un, .un] S)) := by kernel_rfl
theorem e8 (k : Nat) (x0 : PV) (S : Sto) : (semT tb (k + 1)).c 8 [x0] S = fin S.length (outR (bd8 ⟨(semT tb k).c, (semT tb k).l, fun _ => .err⟩ [.pv x0] S)) := by kernel_rfl
theorem e9 (k : Nat) (x0 x1 : PV) (S : Sto) : (semT tb (k + 1)).c 9 [x0, x1] S = fin S.length (outR (bd9 ⟨(semT tb k).c, (semT tb k).l, fun _ => .err⟩ [.pv x0, .pv x1, .un, .un, .un, .un, .un] S)) := by kernel_rfl
theorem e10 (k : Nat) (x0 : PV) (S : Sto) : (semT tb (k + 1)).c 10 [x0] S = fin S.length (outR (bd10 ⟨(semT tb k).c, (semT tb k).l, fun _ => .err⟩ [.pv x0, .un, .un] S)) := by kernel_rfl
theorem e11 (k : Nat) (x0 x1 x2 : PV) (S : Sto) : (semT tb (k + 1)).c 11 [x0, x1, x2] S = fin S.length (outR (bd11 ⟨(semT tb k).c, (semT tb k).l, fun _ => .err⟩ [.pv x0, .pv x1, .pv x2, .un, .un, .un, .un] S)) := by kernel_rfl
theorem e12 (k : Nat) (x0 : PV) (S : Sto) : (semT tb (k + 1)).c 12 [x0] S = fin S.length (outR (bd12 ⟨(semT tb k).c, (semT tb k).l, fun _ => .err⟩ [.pv x0] S)) := by kernel_rfl
theorem e13 (k : Nat) (x0 x1 : PV) (S : Sto) : (semT tb (k + 1)).c 13 [x0, x1] S = fin S.length (outR (bd13 ⟨(semT tb k).c, (semT tb k).l, fun _ => .err⟩ [.pv x0, .pv x1] S)) := by kernel_rfl
theorem e14 (k : Nat) (x0 : PV) (S : Sto) : (semT tb (k + 1)).c 14 [x0] S = fin S.length (outR (bd14 ⟨(semT tb k).c, (semT tb k).l, fun _ => .err⟩ [.pv x0, .un, .un, .un, .un] S)) := by kernel_rfl
theorem e15 (k : Nat) (x0 x1 : PV) (S : Sto) : (semT tb (k + 1)).c 15 [x0, x1] S = fin S.length (outR (bd15 ⟨(semT tb k).c, (semT tb k).l, fun _ => .err⟩ [.pv x0, .pv x1, .un, .un] S)) := by kernel_rfl
theorem e16 (k : Nat) (x0 x1 : PV) (S : Sto) : (semT tb (k + 1)).c 16 [x0, x1] S = fin S.length (outR (bd16 ⟨(semT tb k).c, (semT tb k).l, fun _ => .err⟩ [.pv x0, .pv x1, .un, .un, .un, .un] S)) := by kernel_rfl
theorem e17 (k : Nat) (x0 x1 : PV) (S : Sto) : (semT tb (k + 1)).c 17 [x0, x1] S = fin S.length (outR (bd17 ⟨(semT tb k).c, (semT tb k).l, fun _ => .err⟩ [.pv x0, .pv x1] S)) := by kernel_rfl
theorem e18 (k : Nat) (x0 x1 : PV) (S : Sto) : (semT tb (k + 1)).c 18 [x0, x1] S = fin S.length (outR (bd18 ⟨(semT tb k).c, (semT tb k).l, fun _ => .err⟩ [.pv x0, .pv x1, .un, .un, .un, .un, .un, .un, .un] S)) := by kernel_rfl
theorem e19 (k : Nat) (x0 : PV) (S : Sto) : (semT tb (k + 1)).c 19 [x0] S = fin S.length (outR (bd19 ⟨(semT tb k).c, (semT tb k).l, fun _ => .err⟩ [.pv x0, .un, .un] S)) := by kernel_rfl
theorem e20 (k : Nat) (x0 : PV) (S : Sto) : (semT tb (k + 1)).c 20 [x0] S = fin S.length (outR (bd20 ⟨(semT tb k).c, (semT tb k).l, fun _ => .err⟩ [.pv x0] S)) := by kernel_rfl
theorem e21 (k : Nat) (x0 x1 x2 x3 : PV) (S : Sto) : (semT tb (k + 1)).c 21 [x0, x1, x2, x3] S = fin S.length (outR (bd21 ⟨(semT tb k).c, (semT tb k).l, fun _ => .err⟩ [.pv x0, .pv x1, .pv x2, .pv x3] S)) := by kernel_rfl
theorem e22 (k : Nat) (x0 x1 x2 x3 : PV) (S : Sto) : (semT tb (k + 1)).c 22 [x0, x1, x2, x3] S = fin S.length (outR (bd22 ⟨(semT tb k).c, (semT tb k).l, fun _ => .err⟩ [.pv x0, .pv x1, .pv x2, .pv x3] S)) := by kernel_rfl
theorem e23 (k : Nat) (x0 x1 : PV) (S : Sto) : (semT tb (k + 1)).c 23 [x0, x1] S = fin S.length (outR (bd23 ⟨(semT tb k).c, (semT tb k).l, fun _ => .err⟩ [.pv x0, .pv x1] S)) := by kernel_rfl
theorem e24 (k : Nat) (x0 x1 : PV) (S : Sto) : (semT tb (k + 1)).c 24 [x0, x1] S = fin S.length (outR (bd24 ⟨(semT tb k).c, (semT tb k).l, fun _ => .err⟩ [.pv x0, .pv x1] S)) := by kernel_rfl
theorem e25 (k : Nat) (x0 : PV) (S : Sto) : (semT tb (k + 1)).c 25 [x0] S = fin S.length (outR (bd25 ⟨(semT tb k).c, (semT tb k).l, fun _ => .err⟩ [.pv x0, .un] S)) := by kernel_rfl
theorem e26 (k : Nat) (x0 x1 : PV) (S : Sto) : (semT tb (k + 1)).c 26 [x0, x1] S = fin S.length (outR (bd26 ⟨(semT tb k).c, (semT tb k).l, fun _ => .err⟩ [.pv x0, .pv x1, .un] S)) := by kernel_rfl
theorem e27 (k : Nat) (x0 x1 : PV) (S : Sto) : (semT tb (k + 1)).c 27 [x0, x1] S = fin S.length (outR (bd27 ⟨(semT tb k).c, (semT tb k).l, fun _ => .err⟩ [.pv x0, .pv x1] S)) := by kernel_rfl
theorem e28 (k : Nat) (x0 : PV) (S : Sto) : (semT tb (k + 1)).c 28 [x0] S = fin S.length (outR (bd28 ⟨(semT tb k).c, (semT tb k).l, fun _ => .err⟩ [.pv x0] S)) := by kernel_rfl
theorem e29 (k : Nat) (x0 x1 : PV) (S : Sto) : (semT tb (k + 1)).c 29 [x0, x1] S = fin S.length (outR (bd29 ⟨(semT tb k).c, (semT tb k).l, fun _ => .err⟩ [.pv x0, .pv x1, .un, .un, .un, .un] S)) := by kernel_rfl
theorem e30 (k : Nat) (x0 : PV) (S : Sto) : (semT tb (k + 1)).c 30 [x0] S = fin S.length (outR (bd30 ⟨(semT tb k).c, (semT tb k).l, fun _ => .err⟩ [.pv x0, .un, .un, .un, .un, .un] S)) := by kernel_rfl
theorem e31 (k : Nat) (x0 : PV) (S : Sto) : (semT tb (k + 1)).c 31 [x0] S = fin S.length (outR (bd31 ⟨(semT tb k).c, (semT tb k).l, fun _ => .err⟩ [.pv x0] S)) := by kernel_rfl
theorem e32 (k : Nat) (x0 x1 : PV) (S : Sto) : (semT tb (k + 1)).c 32 [x0, x1] S = fin S.length (outR (bd32 ⟨(semT tb k).c, (semT tb k).l, fun _ => .err⟩ [.pv x0, .pv x1, .un, .un, .un, .un] S)) := by kernel_rfl
theorem e33 (k : Nat) (x0 x1 : PV) (S : Sto) : (semT tb (k + 1)).c 33 [x0, x1] S = fin S.length (outR (bd33 ⟨(semT tb k).c, (semT tb k).l, fun _ => .err⟩ [.pv x0, .pv x1, .un, .un, .un, .un, .un, .un] S)) := by kernel_rfl
theorem e34 (k : Nat) (x0 : PV) (S : Sto) : (semT tb (k + 1)).c 34 [x0] S = fin S.length (outR (bd34 ⟨(semT tb k).c, (semT tb k).l, fun _ => .err⟩ [.pv x0, .un, .un, .un, .un, .un, .un, .un, .un, .un] S)) := by kernel_rfl
theorem e35 (k : Nat) (x0 x1 x2 : PV) (S : Sto) : (semT tb (k + 1)).c 35 [x0, x1, x2] S = fin S.length (outR (bd35 ⟨(semT tb k).c, (semT tb k).l, fun _ => .err⟩ [.pv x0, .pv x1, .pv x2, .un, .un, .un, .un] S)) := by kernel_rfl
theorem e36 (k : Nat) (x0 : PV) (S : Sto) : (semT tb (k + 1)).c 36 [x0] S = fin S.length (outR (bd36 ⟨(semT tb k).c, (semT tb k).l, fun _ => .err⟩ [.pv x0, .un, .un, .un, .un, .un, .un, .un, .un, .un, .un, .un] S)) := by kernel_rfl
theorem e37 (k : Nat) (x0 : PV) (S : Sto) : (semT tb (k + 1)).c 37 [x0] S = fin S.length (outR (bd37 ⟨(semT tb k).c, (semT tb k).l, fun _ => .err⟩ [.pv x0, .un, .un, .un, .un, .un, .un, .un, .un, .un, .un, .un, .un] S)) := by kernel_rfl
theorem e38 (k : Nat) (S : Sto) : (semT tb (k + 1)).c 38 [] S = fin S.length (outR (bd38 ⟨(semT tb k).c, (semT tb k).l, fun _ => .err⟩ [.un, .un, .un, .un, .un, .un, .un, .un] S)) := by kernel_rfl
theorem e39 (k : Nat) (S : Sto) : (semT tb (k + 1)).c 39 [] S = fin S.length (outR (bd39 ⟨(semT tb k).c, (semT tb k).l, fun _ => .err⟩ [.un, .un, .un, .un, .un, .un, .un, .un] S)) := by kernel_rfl
theorem e40 (k : Nat) (S : Sto) : (semT tb (k + 1)).c 40 [] S = fin S.length (outR (bd40 ⟨(semT tb k).c, (semT tb k).l, fun _ => .err⟩ [.un, .un, .un, .un, .un, .un, .un, .un, .un, .un] S)) := by kernel_rfl
theorem e41 (k : Nat) (x0 : PV) (S : Sto) : (semT tb (k + 1)).c 41 [x0] S = fin S.length (outR (bd41 ⟨(semT tb k).c, (semT tb k).l, fun _ => .err⟩ [.pv x0, .un, .un] S)) := by kernel_rfl
end Lk

set_option Elab.async false
set_option linter.all false
set_option maxRecDepth 100000
set_option maxHeartbeats 0
namespace Lk
open PySem PySem.Spec PyProof.Rows L2 Mi
theorem w38 (k : Nat) : (semT tb (k + 12)).c 38 [] [] = .ok (.bl true) [] := by kernel_rfl
end Lk

set_option Elab.async false
set_option linter.all false
set_option maxRecDepth 100000
set_option maxHeartbeats 0
namespace Lk
open PySem PySem.Spec PyProof.Rows L2 Mi
theorem w39 (k : Nat) : (semT tb (k + 12)).c 39 [] [] = .ok (.bl true) [] := by kernel_rfl
end Lk

set_option Elab.async false
set_option linter.all false
set_option maxRecDepth 100000
set_option maxHeartbeats 0
namespace Lk
open PySem PySem.Spec PyProof.Rows L2 Mi
theorem w40 (k : Nat) : (semT tb (k + 12)).c 40 [] [] = .ok (.bl true) [] := by kernel_rfl
end Lk

set_option Elab.async false
set_option linter.all false
set_option maxRecDepth 100000
set_option maxHeartbeats 0
namespace Lk
open PySem PySem.Spec PyProof.Rows L2 Mi
theorem bLen_cell {S : Sto} {i : Nat} {xs : List PV} (hc : cellL S i = some xs) : bLen [.lst i] S = some (.int (xs.length : Int), S) := by
  simp only [bLen, lenP, seqD, hc, Option.map_some]
theorem bTup_cell {S : Sto} {i : Nat} {xs : List PV} (hc : cellL S i = some xs) : bTup [.lst i] S = some (.tup xs, S) := by
  simp only [bTup, seqD, hc, Option.map_some]
theorem spec5 (k : Nat) (t b : Int) (S : Sto) (hb : b ≠ 0) (h : b.natAbs.log2 < 9000) : (semT tb (k + 1)).c 5 [.int t, .int b] S = .ok (frp (nrm t b)) S := by
  rw [e5]
  have g0 : gcdZ t b ≠ 0 := gcdZ_ne hb
  have gl := gcdZ_log (t := t) hb h
  have d : ∀ i S, opDiv (.int i) (.int (gcdZ t b)) S = some (.int (i.fdiv (gcdZ t b)), S) := fun i S => opDiv_ok g0 gl
  have hG : ∀ S, bGcd [.int t, .int b] S = some (.int (gcdZ t b), S) := fun S => rfl
  simp only [bd5, sQ, sS, mL, aC, aN, mV, bndS, bnd, List.getElem?_cons_zero, List.getElem?_cons_succ, hG, ofO, List.set_cons_succ, List.set_cons_zero, sP2, m2, d, sR, mIf, tBl, cInt, mC, sN, outR, mTup]
  unfold nrm
  by_cases hp : 0 < b.fdiv (gcdZ t b)
  · rw [if_pos hp]
    simp only [hp, decide_true, outR]
    rw [fin_ii, List.take_length]
  · rw [if_neg hp]
    simp only [hp, decide_false, m1, mV, bnd, List.getElem?_cons_zero, List.getElem?_cons_succ, opNeg, ofO]
    rw [fin_ii, List.take_length]
theorem spec6 (k : Nat) {p q : Int × Int} {a b : Nat} (S : Sto) (hp : Fr a p) (hq : Fr b q) (h : a + b ≤ 8000) : (semT tb (k + 2)).c 6 [frp p, frp q] S = .ok (frp (tm p q)) S := by
  rw [e6]
  have m1 := fun S => opMul_ok (S := S) hp.s1 hq.s1 (by omega)
  have m3 := fun S => opMul_ok (S := S) hp.s2 hq.s2 (by omega)
  have s := fun S => spec5 k (p.1 * q.1) (p.2 * q.2) S (mul_ne0 hp.toRed hq.toRed) (log_ok (n := a + b) (mul_lt hp.s2 hq.s2) (by omega))
  simp only [bd6, sQ, sR, mCall, aC, aN, mV, m2, mC, bndS, bnd, List.getElem?_cons_zero, List.getElem?_cons_succ, ofO, oIx0, oIx1, m1, m3, opAdd_ii, s, outR]
  rw [fin_frp, List.take_length]
  rfl
theorem nb01 : Nat.beq 0 1 = false := rfl
theorem nb10 : Nat.beq 1 0 = false := rfl
theorem spec2 (k : Nat) {xs : List PV} {i j : Int} (S : Sto) : (semT tb (k + 1)).c 2 [.tup xs, .int i, .int j] S = .ok (.bl (decide (i ≤ xs.length) && decide ((xs.length : Int) ≤ j))) S := by
  rw [e2]
  simp only [bd2, sQ, sR, sN, mAn, mIsi, tyN, isTyN, truP, mCh, mL, bLen, lenP, seqD, cInt, aC, aN, mV, mC, bndS, bnd, List.getElem?_cons_zero, List.getElem?_cons_succ, ofO, outR, Nat.beq_refl, Bool.true_or]
  by_cases h1 : i ≤ xs.length
  · simp only [h1, decide_true, Bool.true_and]
    rw [fin_bl, List.take_length]
  · simp only [h1, decide_false, Bool.false_and]
    rw [fin_bl, List.take_length]
theorem take_app {S T : Sto} : (S ++ T).take S.length = S := List.take_left' rfl
theorem cell_app {S : Sto} {xs : List PV} : cellL (S ++ [.lst xs]) S.length = some xs := by
  unfold cellL
  rw [List.getElem?_append_right (Nat.le_refl _), Nat.sub_self]
  rfl
theorem spec3 (k : Nat) {p : Int × Int} (S : Sto) (hp : Red p) : (semT tb (k + 2)).c 3 [frp p] S = .ok (.bl true) S := by
  rw [e3]
  have s := fun S => spec2 k (xs := [.int p.1, .int p.2]) (i := 2) (j := 2) S
  have hx : frp p = .tup [.int p.1, .int p.2] := rfl
  have hb : 1 ≤ p.2 := by have := hp.pos; omega
  have hc : ((Nat.gcd p.1.natAbs p.2.natAbs : Nat) : Int) = 1 := by rw [hp.cop]; rfl
  have e3 : ∀ S, cEq (.int 1) (.int 1) S = some (.bl true, S) := fun S => rfl
  have c0 : ∀ S, oIx (.tup [.int p.1, .int p.2]) (.int 0) S = some (.int p.1, S) := fun S => rfl
  have c1 : ∀ S, oIx (.tup [.int p.1, .int p.2]) (.int 1) S = some (.int p.2, S) := fun S => rfl
  simp only [hx, bd3, sQ, sI, sR, sN, tNo, tTru, mCall, mAn, mNo, mIsi, tyN, isTyN, truP, m2, mL, bLen, bAll, bGcd, listD, boolsP, lenP, seqD, cInt, aC, aN, mV, mC, mLc, iA, srcP, tYe, lcL, wipeE, gV, bndS, bnd, bndN, c0, c1,
    List.getElem?_cons_zero, List.getElem?_cons_succ, ofO, outR, s]
  simp [c0, c1, bGcd, nb01, nb10, lcL, gV, tYe, bndN, bnd, mAn, mIsi, mNo, mV, tyN, isTyN, hb, hc, e3, cell_app, boolsP, fin_bl, take_app, truP]
theorem spec4 (k : Nat) {p : Int × Int} (S : Sto) (hp : Red p) : (semT tb (k + 3)).c 4 [frp p] S = .ok .non S := by
  rw [e4]
  have s := fun S => spec3 k S hp
  simp only [bd4, sQ, sI, sN, tNo, tTru, mCall, aC, aN, mV, bndS, bnd, List.getElem?_cons_zero, s, truP, outR, Bool.not_true]
  rw [fin_non, List.take_length]
/-! ### draws: the cup is the first cell -/
def cup (a b : Int) (T : Sto) : Sto := .lst [.int a, .int b] :: T
theorem cup0 {a b : Int} {T : Sto} : oIx (.lst 0) (.int 0) (cup a b T) = some (.int a, cup a b T) := rfl
theorem cup1 {a b : Int} {T : Sto} : oIx (.lst 0) (.int 1) (cup a b T) = some (.int b, cup a b T) := rfl
theorem cupS0 {a b v : Int} {T : Sto} : setP (.lst 0) (.int 0) (.int v) (cup a b T) = some (cup v b T) := rfl
theorem cupS1 {a b v : Int} {T : Sto} : setP (.lst 0) (.int 1) (.int v) (cup a b T) = some (cup a v T) := rfl
theorem cup_take {a b : Int} {T : Sto} {x y : Int} : (cup a b T).take (cup x y T).length = cup a b T := by
  show List.take (T.length + 1) (Cell.lst [.int a, .int b] :: T) = _
  rw [List.take_succ_cons, List.take_length]
  rfl
theorem opMod_pos {i m : Int} {S : Sto} (h : 0 < m) : opMod (.int i) (.int m) S = some (.int (i.fmod m), S) := by
  show (if m ≠ 0 then some (PV.int (i.fmod m), S) else none) = _
  rw [if_pos (by omega)]
theorem bInt_i {i : Int} {S : Sto} : bInt [.int i] S = some (.int i, S) := rfl
theorem fmod_in {i m : Int} (h : 0 < m) : 0 ≤ i.fmod m ∧ i.fmod m < m := ⟨Int.fmod_nonneg_of_pos _ h, Int.fmod_lt_of_pos _ h⟩
theorem spec26 (k : Nat) (a b m : Int) (T : Sto) (hm : 0 < m) (hm2 : m.natAbs < 2 ^ 100) : ∃ r a' b', (semT tb (k + 1)).c 26 [.lst 0, .int m] (cup a b T) = .ok (.int r) (cup a' b' T) ∧ 0 ≤ r ∧ r < m := by
  rw [e26]
  have md := fun i S => opMod_pos (i := i) (S := S) hm
  have dv := fun i S => opDiv_ok (i := i) (S := S) (j := m) (by omega) (log_ok hm2 (by omega))
  have d137 := fun i S => opDiv_ok (i := i) (S := S) (j := 137) (by omega) (by decide)
  have m20 := fun i S => opMod_pos (i := i) (S := S) (m := 1048576) (by omega)
  by_cases ha : 0 < a
  · refine ⟨a.fmod m, a.fdiv m, b, ?_, (fmod_in hm).1, (fmod_in hm).2⟩
    simp only [bd26, sQ, sI, sS, sA, sR, sN, tBl, m2, mL, mC, aC, aN, mV, cInt, bnd, bndS, List.getElem?_cons_zero, List.getElem?_cons_succ, List.set_cons_succ, List.set_cons_zero, ofO, cup0, ha, decide_true, bInt_i, md, dv, cupS0, outR]
    rw [fin_int, cup_take]
  · have mu : ∀ S, opMul (.int b) (.int 22229) S = some (.int (b * 22229), S) := fun S => by
      show (if _ then _ else _) = _
      split
      · rfl
      · show (if _ then _ else _) = _
        rw [if_pos ⟨by omega, by omega⟩]
    refine ⟨((((b * 22229 + 46399).fmod 1048576).fdiv 137)).fmod m, a, (b * 22229 + 46399).fmod 1048576, ?_, (fmod_in hm).1, (fmod_in hm).2⟩
    simp only [bd26, sQ, sI, sS, sA, sR, sN, tBl, m2, mL, mC, aC, aN, mV, cInt, bnd, bndS, List.getElem?_cons_zero, List.getElem?_cons_succ, List.set_cons_succ, List.set_cons_zero, ofO, cup0, cup1, ha, decide_false, bInt_i, md, d137, m20, mu, opAdd_ii, cupS1, outR]
    rw [fin_int, cup_take]
theorem cell_cup {a b : Int} {T : Sto} {i : Nat} : cellL (cup a b T) (i + 1) = cellL T i := rfl
theorem spec27 (k : Nat) (a b : Int) (T : Sto) {i : Nat} {ns : List Int} (hc : cellL T i = some (ns.map .int)) (h0 : ns ≠ []) (hl : ns.length ≤ 1000) :
    ∃ r a' b', (semT tb (k + 2)).c 27 [.lst 0, .lst (i + 1)] (cup a b T) = .ok (.int r) (cup a' b' T) ∧ r ∈ ns := by
  rw [e27]
  have hp : 0 < ns.length := List.length_pos_iff.mpr h0
  obtain ⟨r, a', b', h1, h2, h3⟩ := spec26 k a b (ns.length : Int) T (by omega) (by rw [Int.natAbs_natCast]; exact Nat.lt_of_le_of_lt hl (by decide))
  obtain ⟨j, rfl⟩ : ∃ j : Nat, r = (j : Int) := ⟨r.toNat, by omega⟩
  have hj : j < ns.length := by omega
  have bl := bLen_cell (S := cup a b T) (i := i + 1) (xs := ns.map .int) hc
  rw [List.length_map] at bl
  have ix : oIx (.lst (i + 1)) (.int (j : Int)) (cup a' b' T) = some (.int ns[j], cup a' b' T) := by
    show (match (cellL (cup a' b' T) (i + 1)).map fun xs => (false, xs) with | some (_, xs) => (match L2.atI xs (j : Int) with | some v => some (v, cup a' b' T) | none => none) | none => none) = _
    rw [cell_cup, hc]
    show (match L2.atI (ns.map PV.int) (j : Int) with | some v => some (v, cup a' b' T) | none => none) = _
    rw [atI_nat, List.getElem?_map, List.getElem?_eq_getElem hj]
    rfl
  refine ⟨ns[j], a', b', ?_, List.getElem_mem hj⟩
  simp only [bd27, sQ, sR, m2, mCall, mL, aC, aN, mV, bnd, bndS, List.getElem?_cons_zero, List.getElem?_cons_succ, bl, ofO, h1, ix, outR]
  rw [fin_int, cup_take]
theorem rng_nat {m : Nat} (h : m ≤ 1000000) : rngP [.int (m : Int)] = some (.im (rngL (fun k => (k : Int)) m)) := by
  show (if okR (m : Int) = true then some (Src.im (rngL (fun k => (k : Int)) (m : Int).toNat)) else none) = _
  have : okR (m : Int) = true := by
    unfold okR
    exact Nat.ble_eq_true_of_le (by omega)
  rw [if_pos this, Int.toNat_natCast]

theorem q_nx {a b : MS} {cl : Cl} {env env' : Mi.Env} {S S' : Sto} (h : a cl env S = .nx env' S') : sQ a b cl env S = b cl env' S' := by
  show (match a cl env S with | .nx env' S' => b cl env' S' | r => r) = _
  rw [h]
theorem q_rt {a b : MS} {cl : Cl} {env : Mi.Env} {S S' : Sto} {v : PV} (h : a cl env S = .rt v S') : sQ a b cl env S = .rt v S' := by
  show (match a cl env S with | .nx env' S' => b cl env' S' | r => r) = _
  rw [h]
theorem mLc_ok {vs : List Nat} {g : MG} {t : MB} {e : ME} {mi : MI} {cl : Cl} {env : Mi.Env} {S S1 S2 : Sto} {xs l : List PV} (h1 : mi cl env S = .ok (.im xs) S1) (h2 : lcL cl g t e (wipeE env vs) xs S1 = .ok l S2) (h3 : l.length ≤ 16777216) :
    mLc vs g t e mi cl env S = .ok (.lst S2.length) (S2 ++ [.lst l]) := by
  unfold mLc bnd
  rw [h1]
  dsimp only
  rw [h2]
  unfold bndN
  dsimp only
  rw [if_pos h3]
theorem iR_nat {ma : MA} {cl : Cl} {env : Mi.Env} {S S1 : Sto} {m : Nat} (h : ma cl env S = .ok [.int (m : Int)] S1) (hm : m ≤ 1000000) : iR ma cl env S = .ok (.im (rngL (fun k => (k : Int)) m)) S1 := by
  unfold iR bnd
  rw [h]
  dsimp only
  rw [rng_nat hm]
theorem rngL_len {f : Nat → Int} {m : Nat} : (rngL f m).length = m := by rw [rngL_map, List.length_map, List.length_range]
theorem bAbs_nat {i : Int} {S : Sto} : bAbs [.int i] S = some (.int (i.natAbs : Int), S) := by
  show some (PV.int (if i < 0 then -i else i), S) = _
  congr 3
  split <;> omega
theorem sFo_im {g : MG} {mi : MI} {b : MS} {cl : Cl} {env env2 : Mi.Env} {S S1 S2 : Sto} {xs : List PV} (h : mi cl env S = .ok (.im xs) S1) (h2 : forL cl g b xs env S1 = .nx env2 S2) : sFo g mi b cl env S = .nx env2 S2 := by
  unfold sFo bndS
  rw [h]
  exact h2
theorem iR_of {ma : MA} {cl : Cl} {env : Mi.Env} {S S1 : Sto} {m : Nat} {i : Int} (hi : i = (m : Int)) (h : ma cl env S = .ok [.int i] S1) (hm : m ≤ 1000000) : iR ma cl env S = .ok (.im (rngL (fun k => (k : Int)) m)) S1 := by
  subst hi
  exact iR_nat h hm
theorem opMul_small {i j : Int} {S : Sto} (h : -18446744073709551616 < j ∧ j < 18446744073709551616) : opMul (.int i) (.int j) S = some (.int (i * j), S) := by
  show (if i.natAbs.log2 + j.natAbs.log2 < 1000000 then some (PV.int (i * j), S) else if -18446744073709551616 < j ∧ j < 18446744073709551616 then some (PV.int (i * j), S) else none) = _
  rw [if_pos h]
  split <;> rfl
theorem pow10 {S : Sto} : opPow (.int 10) (.int 18) S = some (.int 1000000000000000000, S) := rfl
def hd0 (ns : List Int) : Int := (ns ++ [0]).headD 0
theorem head_at {ns : List Int} : L2.atI (ns.map PV.int ++ [.int 0]) 0 = some (.int (hd0 ns)) := by
  have h := atI_nat (xs := ns.map PV.int ++ [.int 0]) (j := 0)
  rw [show ((0 : Nat) : Int) = 0 from rfl] at h
  rw [h]
  cases ns <;> rfl
theorem fin_new {x y : Int} {S : Sto} {j : Nat} (h : cellL S j = some [.int x, .int y]) : fin 0 (.ok (.lst j) S) = .ok (.lst 0) [.lst [.int x, .int y]] := by
  unfold fin
  dsimp only
  rw [show below 0 (PV.lst j) = false from rfl]
  dsimp only
  rw [h]
  rfl
theorem spec25 (k : Nat) (ns : List Int) (hl : ns.length ≤ 63) : ∃ a b, (semT tb (k + 1)).c 25 [.fl (ns.map .int)] [] = .ok (.lst 0) (cup a b []) := by
  rw [e25]
  have s1 : bList [.fl (ns.map .int)] [] = some (.lst 0, [.lst (ns.map .int)]) := rfl
  have s2 : opAdd (.lst 0) (.lst 1) [.lst (ns.map .int), .lst [.int 0]] = some (.lst 2, [.lst (ns.map .int), .lst [.int 0], .lst (ns.map .int ++ [.int 0])]) := by
    show (if (ns.map PV.int).length + 1 ≤ 16777216 then some (PV.lst 2, _) else none) = _
    rw [if_pos (by rw [List.length_map]; omega)]
    rfl
  have s3 : oIx (.lst 2) (.int 0) [.lst (ns.map .int), .lst [.int 0], .lst (ns.map .int ++ [.int 0])] = some (.int (hd0 ns), [.lst (ns.map .int), .lst [.int 0], .lst (ns.map .int ++ [.int 0])]) := by
    show (match L2.atI (ns.map PV.int ++ [.int 0]) 0 with | some v => some (v, _) | none => none) = _
    rw [head_at]
  have d311 := fun i S => opDiv_ok (i := i) (S := S) (j := 311) (by omega) (by decide)
  have m1091 := fun i S => opMul_small (i := i) (S := S) (j := 1091) (by omega)
  have m20 := fun i S => opMod_pos (i := i) (S := S) (m := 1048576) (by omega)
  have l2 : ∀ x, mLst (aC (mC (.int (0))) aN) x [.pv (.fl (ns.map .int)), .un] [.lst (ns.map .int)] = .ok (.lst 1) [.lst (ns.map .int), .lst [.int 0]] := fun x => rfl
  generalize hc : hd0 ns = c at s3
  simp only [bd25, sQ, sS, sR, m2, mL, aC, aN, mC, mV, bnd, bndS, List.getElem?_cons_zero, List.getElem?_cons_succ, List.set_cons_succ, List.set_cons_zero, s1, ofO, mLst, List.length_cons, List.length_nil, List.cons_append, List.nil_append, Nat.zero_add, Nat.reduceAdd, s2, s3, bAbs_nat, mIf, tBl, cInt, pow10, d311, m1091, m20, bInt_i, opAdd_ii]
  by_cases h : (1000000000000000000 : Int) ≤ (c.natAbs : Int)
  · simp only [h, decide_true, outR]
    exact ⟨_, _, fin_new rfl⟩
  · simp only [h, decide_false, outR]
    exact ⟨_, _, fin_new rfl⟩
/-! ### kinds -/
theorem s28b (k : Nat) (b : Bool) (S : Sto) : (semT tb (k + 1)).c 28 [.bl b] S = .ok (.int 1) S := by
  rw [e28]
  show Res.ok (PV.int 1) (S.take S.length) = _
  rw [List.take_length]
theorem s28i (k : Nat) (i : Int) (S : Sto) : (semT tb (k + 1)).c 28 [.int i] S = .ok (.int 2) S := by
  rw [e28]
  show Res.ok (PV.int 2) (S.take S.length) = _
  rw [List.take_length]
theorem s28t (k : Nat) (xs : List PV) (S : Sto) : (semT tb (k + 1)).c 28 [.tup xs] S = .ok (.int 4) S := by
  rw [e28]
  show Res.ok (PV.int 4) (S.take S.length) = _
  rw [List.take_length]
theorem s28l (k : Nat) (i : Nat) (S : Sto) : (semT tb (k + 1)).c 28 [.lst i] S = .ok (.int 5) S := by
  rw [e28]
  show Res.ok (PV.int 5) (S.take S.length) = _
  rw [List.take_length]
/-! ### a value is like itself -/
theorem l29i (k : Nat) (i : Int) (S : Sto) : (semT tb (k + 2)).c 29 [.int i, .int i] S = .ok (.bl true) S := by
  rw [e29]
  have s := fun S => s28i k i S
  have c1 : ∀ S, cNe (.int 2) (.int 2) S = some (.bl false, S) := fun S => rfl
  have c2 : ∀ S, cEq (.int 2) (.int 6) S = some (.bl false, S) := fun S => rfl
  have c3 : ∀ S, cIn (.int 2) (.tup [.int 4, .int 5]) S = some (.bl false, S) := fun S => rfl
  simp only [bd29, sQ, sS, sI, sN, sR, tO, tBl, m2, mCall, mTup, mC, aC, aN, mV, bnd, bndS, List.getElem?_cons_zero, List.getElem?_cons_succ, List.set_cons_succ, List.set_cons_zero, s, ofO, c1, c2, c3, cEq_ii, decide_true, outR]
  rw [fin_bl, List.take_length]
theorem l29b (k : Nat) (i : Bool) (S : Sto) : (semT tb (k + 2)).c 29 [.bl i, .bl i] S = .ok (.bl true) S := by
  rw [e29]
  have s := fun S => s28b k i S
  have c1 : ∀ S, cNe (.int 1) (.int 1) S = some (.bl false, S) := fun S => rfl
  have c2 : ∀ S, cEq (.int 1) (.int 6) S = some (.bl false, S) := fun S => rfl
  have c3 : ∀ S, cIn (.int 1) (.tup [.int 4, .int 5]) S = some (.bl false, S) := fun S => rfl
  have c4 : ∀ S, cEq (.bl i) (.bl i) S = some (.bl true, S) := fun S => by cases i <;> rfl
  simp only [bd29, sQ, sS, sI, sN, sR, tO, tBl, m2, mCall, mTup, mC, aC, aN, mV, bnd, bndS, List.getElem?_cons_zero, List.getElem?_cons_succ, List.set_cons_succ, List.set_cons_zero, s, ofO, c1, c2, c3, c4, outR]
  rw [fin_bl, List.take_length]
theorem nth_zp {xs : List PV} {i : Nat} {S : Sto} : nthS (.zp (.im xs) (.im xs)) i S = some (xs[i]?.map fun x => .tup [x, x]) := by
  show (match some xs[i]?, some xs[i]? with
    | some (some x), some (some y) => some (some (PV.tup [x, y]))
    | some none, some _ => some none
    | some (some _), some none => some none
    | _, _ => none) = _
  cases xs[i]? <;> rfl
/-- the pairs that are not alike: none -/
theorem lcN_like {cl : Cl} {env : Mi.Env} {S : Sto} {xs : List PV} (h : ∀ x, x ∈ xs → cl.call 29 [x, x] S = .ok (.bl true) S) (he : ∃ a b c d e f, env = [a, b, c, d, e, f]) :
    ∀ m i, i + m = xs.length → lcN cl (gT (gC (gV 4) (gC (gV 5) gN))) (tNo (tTru (mCall 29 (aC (mV 4) (aC (mV 5) aN))))) (mC (.int (1))) (.zp (.im xs) (.im xs)) env (m + 1) i S = .ok [] S
  | 0, i, hm => by
    rw [lcN, nth_zp, List.getElem?_eq_none (by omega)]
    rfl
  | m + 1, i, hm => by
    obtain ⟨a, b, c, d, e, f, rfl⟩ := he
    obtain ⟨x, hx⟩ : ∃ x, xs[i]? = some x := ⟨xs[i], List.getElem?_eq_getElem (by omega)⟩
    have h1 := h x (List.mem_of_getElem? hx)
    have ih := lcN_like h ⟨a, b, c, d, e, f, rfl⟩ m (i + 1) (by omega)
    rw [lcN, nth_zp, hx]
    simp only [Option.map_some, gT, gC, gV, gN, tNo, tTru, mCall, aC, aN, mV, bnd, bndN, List.getElem?_cons_zero, List.getElem?_cons_succ, List.set_cons_succ, List.set_cons_zero, h1, truP, Bool.not_true]
    exact ih
theorem iZ_same {cl : Cl} {env : Mi.Env} {S S1 : Sto} {ma : MA} {xs : List PV} (h : ma cl env S = .ok [.tup xs, .tup xs] S1) : iZ ma cl env S = .ok (.zp (.im xs) (.im xs)) S1 := by
  unfold iZ bnd
  rw [h]
  rfl
theorem iZ_cell {cl : Cl} {env : Mi.Env} {S S1 : Sto} {ma : MA} {i j : Nat} (h : ma cl env S = .ok [.lst i, .lst j] S1) : iZ ma cl env S = .ok (.zp (.lv i) (.lv j)) S1 := by
  unfold iZ bnd
  rw [h]
  rfl
theorem mLc_zp {vs : List Nat} {g : MG} {t : MB} {e : ME} {mi : MI} {cl : Cl} {env : Mi.Env} {S S1 S2 : Sto} {a b : Src} {l : List PV} (h1 : mi cl env S = .ok (.zp a b) S1) (h2 : lcN cl g t e (.zp a b) (wipeE env vs) (lenS (.zp a b) S1 + 1) 0 S1 = .ok l S2) (h3 : l.length ≤ 16777216) :
    mLc vs g t e mi cl env S = .ok (.lst S2.length) (S2 ++ [.lst l]) := by
  unfold mLc bnd
  rw [h1]
  dsimp only
  rw [h2]
  unfold bndN
  dsimp only
  rw [if_pos h3]
def mx29 : ME := mLc [3, 4, 5] (gT (gC (gV 4) (gC (gV 5) gN))) (tNo (tTru (mCall 29 (aC (mV 4) (aC (mV 5) aN))))) (mC (.int (1))) (iZ (aC (mV 0) (aC (mV 1) aN)))
theorem cEq_nil {S : Sto} : cEq (.lst S.length) (.lst (S ++ [Cell.lst []]).length) (S ++ [Cell.lst []] ++ [Cell.lst []]) = some (.bl true, S ++ [Cell.lst []] ++ [Cell.lst []]) := by
  have a : cellL (S ++ [Cell.lst []] ++ [Cell.lst []]) S.length = some [] := by
    unfold cellL
    rw [List.append_assoc, List.getElem?_append_right (Nat.le_refl _), Nat.sub_self]
    rfl
  have b : cellL (S ++ [Cell.lst []] ++ [Cell.lst []]) (S ++ [Cell.lst []]).length = some [] := cell_app
  have ea : okD (S ++ [Cell.lst []] ++ [Cell.lst []]) 64 (.lst S.length) = true := by
    show (match cellL (S ++ [Cell.lst []] ++ [Cell.lst []]) S.length with | some xs => xs.all (okD (S ++ [Cell.lst []] ++ [Cell.lst []]) 63) | none => false) = true
    rw [a]; rfl
  have eb : okD (S ++ [Cell.lst []] ++ [Cell.lst []]) 64 (.lst (S ++ [Cell.lst []]).length) = true := by
    show (match cellL (S ++ [Cell.lst []] ++ [Cell.lst []]) (S ++ [Cell.lst []]).length with | some xs => xs.all (okD (S ++ [Cell.lst []] ++ [Cell.lst []]) 63) | none => false) = true
    rw [b]; rfl
  unfold cEq
  rw [ea, eb]
  have eq : eqD (S ++ [Cell.lst []] ++ [Cell.lst []]) 64 (.lst S.length) (.lst (S ++ [Cell.lst []]).length) = true := by
    show (match (cellL (S ++ [Cell.lst []] ++ [Cell.lst []]) S.length).map fun xs => (false, xs), (cellL (S ++ [Cell.lst []] ++ [Cell.lst []]) (S ++ [Cell.lst []]).length).map fun xs => (false, xs) with
      | some (k, xs), some (l, ys) => (k == l) && eqL (eqD (S ++ [Cell.lst []] ++ [Cell.lst []]) 63) xs ys
      | _, _ => false) = true
    rw [a, b]; rfl
  rw [eq]
  rfl
def st29 : MS := sS 2 (mCall 28 (aC (mV 1) aN))
def if29 : MS := sI (tO (tBl (m2 cNe (mCall 28 (aC (mV 0) aN)) (mV 2))) (tBl (m2 cEq (mV 2) (mC (.int (6)))))) (sQ (sR (mC (.bl false))) sN) sN
def sq29 : MS := sI (tBl (m2 cIn (mV 2) (mTup (aC (mC (.int (4))) (aC (mC (.int (5))) aN))))) (sQ (sR (mAn (m2 cEq (mL bLen (aC (mV 0) aN)) (mL bLen (aC (mV 1) aN))) (m2 cEq mx29 (mLst aN)))) sN) sN
theorem l29t (k : Nat) (xs : List PV) (S : Sto) (h : ∀ x, x ∈ xs → ∀ S, (semT tb (k + 1)).c 29 [x, x] S = .ok (.bl true) S) : (semT tb (k + 2)).c 29 [.tup xs, .tup xs] S = .ok (.bl true) S := by
  rw [e29]
  have s := fun S => s28t k xs S
  have c1 : ∀ S, cNe (.int 4) (.int 4) S = some (.bl false, S) := fun S => rfl
  have c2 : ∀ S, cEq (.int 4) (.int 6) S = some (.bl false, S) := fun S => rfl
  have c3 : ∀ S, cIn (.int 4) (.tup [.int 4, .int 5]) S = some (.bl true, S) := fun S => rfl
  have bl : ∀ S, bLen [.tup xs] S = some (.int (xs.length : Int), S) := fun S => rfl
  have p1 : st29 ⟨(semT tb (k + 1)).c, (semT tb (k + 1)).l, fun _ => .err⟩ [.pv (.tup xs), .pv (.tup xs), .un, .un, .un, .un] S = .nx [.pv (.tup xs), .pv (.tup xs), .pv (.int 4), .un, .un, .un] S := by
    simp only [st29, sS, mCall, aC, aN, mV, bnd, bndS, List.getElem?_cons_zero, List.getElem?_cons_succ, List.set_cons_succ, List.set_cons_zero, s]
  have p2 : if29 ⟨(semT tb (k + 1)).c, (semT tb (k + 1)).l, fun _ => .err⟩ [.pv (.tup xs), .pv (.tup xs), .pv (.int 4), .un, .un, .un] S = .nx [.pv (.tup xs), .pv (.tup xs), .pv (.int 4), .un, .un, .un] S := by
    simp only [if29, sI, sN, tO, tBl, m2, mCall, mC, aC, aN, mV, bnd, bndS, List.getElem?_cons_zero, List.getElem?_cons_succ, s, ofO, c1, c2]
  have lc := lcN_like (cl := ⟨(semT tb (k + 1)).c, (semT tb (k + 1)).l, fun _ => .err⟩) (env := [.pv (.tup xs), .pv (.tup xs), .pv (.int 4), .un, .un, .un]) (S := S) (xs := xs) (fun x hx => h x hx S) ⟨_, _, _, _, _, _, rfl⟩ xs.length 0 (by omega)
  have ln : lenS (.zp (.im xs) (.im xs)) S = xs.length := Nat.min_self _
  have mx : mx29 ⟨(semT tb (k + 1)).c, (semT tb (k + 1)).l, fun _ => .err⟩ [.pv (.tup xs), .pv (.tup xs), .pv (.int 4), .un, .un, .un] S = .ok (.lst S.length) (S ++ [.lst []]) :=
    mLc_zp (iZ_same rfl) (by rw [ln]; exact lc) (by decide)
  have p3 : sq29 ⟨(semT tb (k + 1)).c, (semT tb (k + 1)).l, fun _ => .err⟩ [.pv (.tup xs), .pv (.tup xs), .pv (.int 4), .un, .un, .un] S = .rt (.bl true) (S ++ [Cell.lst []] ++ [Cell.lst []]) := by
    simp only [sq29, sQ, sI, sN, sR, tBl, m2, mAn, mL, mTup, mLst, mC, aC, aN, mV, bnd, bndS, List.getElem?_cons_zero, List.getElem?_cons_succ, ofO, c3, bl, cEq_ii, decide_true, truP, mx, cEq_nil]
  have f := (q_nx p1).trans ((q_nx p2).trans (q_rt (b := sQ (sR (m2 cEq (mV 0) (mV 1))) sN) p3))
  have f' : bd29 ⟨(semT tb (k + 1)).c, (semT tb (k + 1)).l, fun _ => .err⟩ [.pv (.tup xs), .pv (.tup xs), .un, .un, .un, .un] S = .rt (.bl true) (S ++ [Cell.lst []] ++ [Cell.lst []]) := f
  rw [f']
  show fin _ (.ok (.bl true) _) = _
  rw [fin_bl, List.append_assoc, take_app]
theorem nth_lv {xs : List PV} {a b i : Nat} {S : Sto} (ha : cellL S a = some xs) (hb : cellL S b = some xs) : nthS (.zp (.lv a) (.lv b)) i S = some (xs[i]?.map fun x => .tup [x, x]) := by
  show (match (cellL S a).map fun xs => xs[i]?, (cellL S b).map fun xs => xs[i]? with
    | some (some x), some (some y) => some (some (PV.tup [x, y]))
    | some none, some _ => some none
    | some (some _), some none => some none
    | _, _ => none) = _
  rw [ha, hb]
  show (match some xs[i]?, some xs[i]? with
    | some (some x), some (some y) => some (some (PV.tup [x, y]))
    | some none, some _ => some none
    | some (some _), some none => some none
    | _, _ => none) = _
  cases xs[i]? <;> rfl
theorem lcN_likeL {cl : Cl} {env : Mi.Env} {S : Sto} {xs : List PV} {p q : Nat} (ha : cellL S p = some xs) (hb : cellL S q = some xs) (h : ∀ x, x ∈ xs → cl.call 29 [x, x] S = .ok (.bl true) S) (he : ∃ a b c d e f, env = [a, b, c, d, e, f]) :
    ∀ m i, i + m = xs.length → lcN cl (gT (gC (gV 4) (gC (gV 5) gN))) (tNo (tTru (mCall 29 (aC (mV 4) (aC (mV 5) aN))))) (mC (.int (1))) (.zp (.lv p) (.lv q)) env (m + 1) i S = .ok [] S
  | 0, i, hm => by
    rw [lcN, nth_lv ha hb, List.getElem?_eq_none (by omega)]
    rfl
  | m + 1, i, hm => by
    obtain ⟨a, b, c, d, e, f, rfl⟩ := he
    obtain ⟨x, hx⟩ : ∃ x, xs[i]? = some x := ⟨xs[i], List.getElem?_eq_getElem (by omega)⟩
    have h1 := h x (List.mem_of_getElem? hx)
    have ih := lcN_likeL ha hb h ⟨a, b, c, d, e, f, rfl⟩ m (i + 1) (by omega)
    rw [lcN, nth_lv ha hb, hx]
    simp only [Option.map_some, gT, gC, gV, gN, tNo, tTru, mCall, aC, aN, mV, bnd, bndN, List.getElem?_cons_zero, List.getElem?_cons_succ, List.set_cons_succ, List.set_cons_zero, h1, truP, Bool.not_true]
    exact ih
theorem lenS_lv {p q : Nat} {S : Sto} {xs : List PV} (ha : cellL S p = some xs) (hb : cellL S q = some xs) : lenS (.zp (.lv p) (.lv q)) S = xs.length := by
  show min (match cellL S p with | some xs => xs.length | none => 0) (match cellL S q with | some xs => xs.length | none => 0) = _
  rw [ha, hb]
  exact Nat.min_self _
theorem l29l (k : Nat) {p q : Nat} (xs : List PV) (S : Sto) (ha : cellL S p = some xs) (hb : cellL S q = some xs) (h : ∀ x, x ∈ xs → ∀ S, (semT tb (k + 1)).c 29 [x, x] S = .ok (.bl true) S) : (semT tb (k + 2)).c 29 [.lst p, .lst q] S = .ok (.bl true) S := by
  rw [e29]
  have s := fun i S => s28l k i S
  have c1 : ∀ S, cNe (.int 5) (.int 5) S = some (.bl false, S) := fun S => rfl
  have c2 : ∀ S, cEq (.int 5) (.int 6) S = some (.bl false, S) := fun S => rfl
  have c3 : ∀ S, cIn (.int 5) (.tup [.int 4, .int 5]) S = some (.bl true, S) := fun S => rfl
  have bp := bLen_cell ha
  have bq := bLen_cell hb
  have p1 : st29 ⟨(semT tb (k + 1)).c, (semT tb (k + 1)).l, fun _ => .err⟩ [.pv (.lst p), .pv (.lst q), .un, .un, .un, .un] S = .nx [.pv (.lst p), .pv (.lst q), .pv (.int 5), .un, .un, .un] S := by
    simp only [st29, sS, mCall, aC, aN, mV, bnd, bndS, List.getElem?_cons_zero, List.getElem?_cons_succ, List.set_cons_succ, List.set_cons_zero, s]
  have p2 : if29 ⟨(semT tb (k + 1)).c, (semT tb (k + 1)).l, fun _ => .err⟩ [.pv (.lst p), .pv (.lst q), .pv (.int 5), .un, .un, .un] S = .nx [.pv (.lst p), .pv (.lst q), .pv (.int 5), .un, .un, .un] S := by
    simp only [if29, sI, sN, tO, tBl, m2, mCall, mC, aC, aN, mV, bnd, bndS, List.getElem?_cons_zero, List.getElem?_cons_succ, s, ofO, c1, c2]
  have lc := lcN_likeL (cl := ⟨(semT tb (k + 1)).c, (semT tb (k + 1)).l, fun _ => .err⟩) (env := [.pv (.lst p), .pv (.lst q), .pv (.int 5), .un, .un, .un]) (S := S) (xs := xs) ha hb (fun x hx => h x hx S) ⟨_, _, _, _, _, _, rfl⟩ xs.length 0 (by omega)
  have mx : mx29 ⟨(semT tb (k + 1)).c, (semT tb (k + 1)).l, fun _ => .err⟩ [.pv (.lst p), .pv (.lst q), .pv (.int 5), .un, .un, .un] S = .ok (.lst S.length) (S ++ [.lst []]) :=
    mLc_zp (iZ_cell rfl) (by rw [lenS_lv ha hb]; exact lc) (by decide)
  have p3 : sq29 ⟨(semT tb (k + 1)).c, (semT tb (k + 1)).l, fun _ => .err⟩ [.pv (.lst p), .pv (.lst q), .pv (.int 5), .un, .un, .un] S = .rt (.bl true) (S ++ [Cell.lst []] ++ [Cell.lst []]) := by
    simp only [sq29, sQ, sI, sN, sR, tBl, m2, mAn, mL, mTup, mLst, mC, aC, aN, mV, bnd, bndS, List.getElem?_cons_zero, List.getElem?_cons_succ, ofO, c3, bp, bq, cEq_ii, decide_true, truP, mx, cEq_nil]
  have f := (q_nx p1).trans ((q_nx p2).trans (q_rt (b := sQ (sR (m2 cEq (mV 0) (mV 1))) sN) p3))
  have f' : bd29 ⟨(semT tb (k + 1)).c, (semT tb (k + 1)).l, fun _ => .err⟩ [.pv (.lst p), .pv (.lst q), .un, .un, .un, .un] S = .rt (.bl true) (S ++ [Cell.lst []] ++ [Cell.lst []]) := f
  rw [f']
  show fin _ (.ok (.bl true) _) = _
  rw [fin_bl, List.append_assoc, take_app]
end Lk

set_option Elab.async false
set_option linter.all false
set_option maxRecDepth 100000
set_option maxHeartbeats 0
namespace Lk
open PySem PySem.Spec PyProof.Rows L2 Mi
abbrev FL := List (Int × Int)
abbrev RU := List FL × FL
def rul (R : RU) : PV := .tup [.tup (R.1.map pol), pol R.2]
structure WR (R : RU) (n : Nat) : Prop where
  l1 : R.1.length = n
  l2 : ∀ r ∈ R.1, r.length = n
  l3 : R.2.length = n
  h1 : 1 ≤ n
  h6 : n ≤ 6
  f : ∀ r ∈ R.1, ∀ p ∈ r, Fr 3 p
  g : ∀ p ∈ R.2, Fr 3 p
theorem belows_pol {n : Nat} : ∀ {rs : List FL}, belows n (rs.map pol) = true
  | [] => by simp only [List.map_nil, belows]
  | r :: rs => by
    rw [List.map_cons, belows, belows_pol, Bool.and_true]
    unfold pol below
    exact belows_frp
theorem below_pol {n : Nat} {r : FL} : below n (pol r) = true := by unfold pol below; exact belows_frp
theorem below_rul {n : Nat} {R : RU} : below n (rul R) = true := by
  unfold rul below
  simp only [belows, below_pol, Bool.and_true]
  unfold below
  exact belows_pol
theorem opAdd_tup {xs ys : List PV} {T : Sto} (h : xs.length + ys.length ≤ 16777216) : opAdd (.tup xs) (.tup ys) T = some (.tup (xs ++ ys), T) := by
  show (if xs.length + ys.length ≤ 16777216 then some (PV.tup (xs ++ ys), T) else none) = _
  rw [if_pos h]
theorem bLen_tup {xs : List PV} {T : Sto} : bLen [.tup xs] T = some (.int (xs.length : Int), T) := rfl
theorem bAll_true {xs : List PV} {T : Sto} {i : Nat} (h : cellL T i = some (xs.map fun _ => .bl true)) : bAll [.lst i] T = some (.bl true, T) := by
  rw [map_const] at h
  simp only [bAll, listD, seqD, h, Option.map_some, boolsP_true, all_true]
theorem spec2t (k : Nat) {xs : List PV} {i j : Int} (S : Sto) (h1 : i ≤ xs.length) (h2 : (xs.length : Int) ≤ j) : (semT tb (k + 1)).c 2 [.tup xs, .int i, .int j] S = .ok (.bl true) S := by
  rw [spec2, decide_eq_true h1, decide_eq_true h2]
  rfl
/-- value[0] + value[1:] -/
theorem e_rows {cl : Cl} {env : Mi.Env} {S : Sto} {R : RU} {n : Nat} (w : WR R n) (h : env[0]? = some (.pv (rul R))) : E (m2 opAdd (m2 oIx (mV 0) (mC (.int (0)))) (mSl (mV 0) (some (mC (.int (1)))) none)) cl env S (.tup ((R.1 ++ [R.2]).map pol)) := by
  refine e_2 (v := .tup (R.1.map pol)) (w := .tup [pol R.2]) (e_2 (e_v h) e_c fun T => rfl) ((e_sl (xs := [.tup (R.1.map pol), pol R.2]) (l := some 1) (h := none) (e_v h) e_c trivial).cast rfl) fun T => ?_
  rw [opAdd_tup (by have := w.l1; have := w.h6; simp only [List.length_map, List.length_singleton]; omega), List.map_append]
  rfl
theorem spec7 (k : Nat) {R : RU} {n : Nat} (S : Sto) (w : WR R n) : (semT tb (k + 3)).c 7 [rul R] S = .ok (.bl true) S := by
  rw [e7]
  have hl : ∀ r ∈ R.1 ++ [R.2], r.length = n := fun r hr => by
    rcases List.mem_append.mp hr with h | h
    · exact w.l2 r h
    · rw [List.mem_singleton.mp h]; exact w.l3
  have hf : ∀ r ∈ R.1 ++ [R.2], ∀ p ∈ r, Red p := fun r hr p hp => by
    rcases List.mem_append.mp hr with h | h
    · exact (w.f r h p hp).toRed
    · rw [List.mem_singleton.mp h] at hp; exact (w.g p hp).toRed
  have n1 := w.h1
  have n6 := w.h6
  have lr : (R.1 ++ [R.2]).length ≤ 100 := by rw [List.length_append, w.l1, List.length_singleton]; omega
  refine RO.fin (ro_no (eb_or (b := false) (c := false) (eb_no (b := true) (eb_tru (e_call (ea_c (v := .tup [.tup (R.1.map pol), pol R.2]) (e_v rfl) (ea_c e_c (ea_c e_c ea_n))) fun T _ => spec2t (k + 1) (xs := [.tup (R.1.map pol), pol R.2]) (i := 2) (j := 2) T (by simp) (by simp)))) fun _ => eb_no (b := true) (eb_tru (e_call (ea_c (v := .tup (R.1.map pol)) (e_2 (e_v rfl) e_c fun T => rfl) (ea_c e_c (ea_c e_c ea_n))) fun T _ => spec2t (k + 1) T (by rw [List.length_map, w.l1]; omega) (by rw [List.length_map, w.l1]; omega)))) fun T1 p1 => ?_) rfl
  refine ro_s (v := .int (n : Int)) (e_L (ea_c (v := .tup (R.1.map pol)) (e_2 (e_v rfl) e_c fun T => rfl) ea_n) fun T => by rw [bLen_tup, List.length_map, w.l1]) fun T2 p2 => ?_
  refine ro_no (eb_no (b := true) (eb_tru (e_Ll (el_lcY (f := fun _ => .bl true) (i_tup (e_rows w rfl)) (fun x hx => ?_) (by rw [List.length_map]; omega)) fun T i c => bAll_true c))) fun T3 p3 => ?_
  · obtain ⟨r, hr, rfl⟩ := List.mem_map.mp hx
    refine ⟨_, rfl, e_call (ea_c (e_v rfl) (ea_c (e_v rfl) (ea_c (e_v rfl) ea_n))) fun T _ => spec2t (k + 1) (xs := r.map frp) T ?_ ?_⟩ <;> rw [List.length_map, hl r hr] <;> omega
  · refine ro_r (e_Ll (el_lcY (f := fun _ => .bl true) (i_tup (e_rows w rfl)) (fun x hx => ?_) (by rw [List.length_map]; omega)) fun T i c => bAll_true c)
    obtain ⟨r, hr, rfl⟩ := List.mem_map.mp hx
    refine ⟨_, rfl, e_Ll (el_lcY (f := fun _ => .bl true) (xs := r.map frp) (i_tup (e_v rfl)) (fun y hy => ?_) (by rw [List.length_map, hl r hr]; omega)) fun T i c => bAll_true c⟩
    obtain ⟨p, hp, rfl⟩ := List.mem_map.mp hy
    exact ⟨_, rfl, e_call (ea_c (e_v rfl) ea_n) fun T _ => spec3 k T (hf r hr p hp)⟩
theorem spec8 (k : Nat) {R : RU} {n : Nat} (S : Sto) (w : WR R n) : (semT tb (k + 4)).c 8 [rul R] S = .ok .non S := by
  rw [e8]
  exact RO.fin (ro_no (eb_no (b := true) (eb_tru (e_call (ea_c (e_v rfl) ea_n) fun T _ => spec7 k T w))) fun T _ => ro_n) rfl
end Lk

set_option Elab.async false
set_option linter.all false
set_option maxRecDepth 100000
set_option maxHeartbeats 0
namespace Lk
open PySem PySem.Spec PyProof.Rows L2 Mi
theorem cutP_drop {xs : List PV} {m : Nat} : cutP xs (some (m : Int)) none = xs.drop m := by
  unfold cutP
  rw [HT.sIx_nat, HT.sIx_none]
  by_cases h : m ≤ xs.length
  · rw [Nat.min_eq_left h, List.take_of_length_le (by rw [List.length_drop]; omega)]
  · rw [Nat.min_eq_right (by omega), List.drop_of_length_le (Nat.le_refl _), List.drop_of_length_le (by omega), List.take_nil]
theorem cutP_takeA {xs : List PV} {m : Nat} : cutP xs none (some (m : Int)) = xs.take m := by
  unfold cutP
  rw [HT.sIx_nat, HT.sIx_none, List.drop_zero, Nat.sub_zero]
  by_cases h : m ≤ xs.length
  · rw [Nat.min_eq_left h]
  · rw [Nat.min_eq_right (by omega), List.take_of_length_le (Nat.le_refl _), List.take_of_length_le (by omega)]
theorem cutP_mid {xs : List PV} {a b : Nat} (h1 : a ≤ b) (h2 : b ≤ xs.length) : cutP xs (some (a : Int)) (some (b : Int)) = (xs.drop a).take (b - a) := by
  unfold cutP
  rw [HT.sIx_nat, HT.sIx_nat, Nat.min_eq_left h2, Nat.min_eq_left (by omega)]
theorem okD_polv {T : Sto} {r : FL} : okD T 63 (pol r) = true := okD_pol (n := 60)
theorem cmp_nilR {T : Sto} {i j : Nat} {xs : List PV} (hi : cellL T i = some xs) (hj : cellL T j = some []) (ok : ∀ x ∈ xs, okD T 63 x = true) : (okD T 64 (.lst i) && okD T 64 (.lst j)) = true ∧ eqD T 64 (.lst i) (.lst j) = xs.isEmpty := by
  have ea : okD T 64 (.lst i) = true := by
    show (match cellL T i with | some xs => xs.all (okD T 63) | none => false) = true
    rw [hi]; exact List.all_eq_true.mpr ok
  have eb : okD T 64 (.lst j) = true := by
    show (match cellL T j with | some xs => xs.all (okD T 63) | none => false) = true
    rw [hj]; rfl
  refine ⟨by rw [ea, eb]; rfl, ?_⟩
  show (match (cellL T i).map fun xs => (false, xs), (cellL T j).map fun xs => (false, xs) with
    | some (k, xs), some (l, ys) => (k == l) && eqL (eqD T 63) xs ys
    | _, _ => false) = _
  rw [hi, hj]
  cases xs <;> rfl
theorem cNe_nilR {T : Sto} {i j : Nat} {xs : List PV} (hi : cellL T i = some xs) (hj : cellL T j = some []) (ok : ∀ x ∈ xs, okD T 63 x = true) : cNe (.lst i) (.lst j) T = some (.bl (!xs.isEmpty), T) := by
  obtain ⟨h1, h2⟩ := cmp_nilR hi hj ok
  unfold cNe
  rw [h1, h2]
  rfl
theorem cEq_nilR {T : Sto} {i j : Nat} {xs : List PV} (hi : cellL T i = some xs) (hj : cellL T j = some []) (ok : ∀ x ∈ xs, okD T 63 x = true) : cEq (.lst i) (.lst j) T = some (.bl xs.isEmpty, T) := by
  obtain ⟨h1, h2⟩ := cmp_nilR hi hj ok
  unfold cEq
  rw [h1, h2]
  rfl
theorem eqD_frp {T : Sto} {n : Nat} {p q : Int × Int} : eqD T (n + 2) (frp p) (frp q) = decide (p = q) := by
  show (true && (decide (p.1 = q.1) && (decide (p.2 = q.2) && true))) = _
  obtain ⟨a, b⟩ := p
  obtain ⟨c, d⟩ := q
  simp only [Bool.true_and, Bool.and_true, Prod.mk.injEq, Bool.decide_and]
theorem eqL_frp {T : Sto} {n : Nat} : ∀ {a b : FL}, eqL (eqD T (n + 2)) (a.map frp) (b.map frp) = decide (a = b)
  | [], [] => by simp [eqL]
  | [], _ :: _ => by simp [eqL]
  | _ :: _, [] => by simp [eqL]
  | p :: a, q :: b => by
    simp only [List.map_cons, eqL, eqD_frp, eqL_frp, List.cons.injEq, Bool.decide_and]
theorem cNe_pol {T : Sto} {a b : FL} : cNe (pol a) (pol b) T = some (.bl (!decide (a = b)), T) := by
  have h1 : okD T 64 (pol a) = true := okD_pol (n := 61)
  have h2 : okD T 64 (pol b) = true := okD_pol (n := 61)
  have h3 : eqD T 64 (pol a) (pol b) = decide (a = b) := by
    show (true && eqL (eqD T 63) (a.map frp) (b.map frp)) = _
    rw [eqL_frp (n := 61), Bool.true_and]
  unfold cNe
  rw [h1, h2, h3]
  rfl
theorem filter_isEmpty {α : Type} {p : α → Bool} : ∀ {l : List α}, (l.filter p).isEmpty = l.all fun x => !p x
  | [] => rfl
  | x :: l => by
    cases h : p x with
    | true => simp [List.filter_cons, h]
    | false => simp only [List.filter_cons, h, Bool.false_eq_true, if_false, List.all_cons, Bool.not_false, Bool.true_and]; exact filter_isEmpty
def nzP : PV → Bool
  | .tup (.int a :: _) => !decide (a = 0)
  | _ => false
def unf : PV → Int × Int
  | .tup [.int a, .int b] => (a, b)
  | _ => (0, 0)
theorem map_unf : ∀ {r : FL}, (r.map frp).map unf = r
  | [] => rfl
  | p :: r => by rw [List.map_cons, List.map_cons, map_unf]; rfl
def untup : PV → List PV
  | .tup l => l
  | _ => []
def zerosB (m : Nat) (r : FL) : Bool := (r.drop m).all fun p => decide (p.1 = 0)
def partedB (R : RU) (m : Nat) : Bool := (R.1.take m).all (zerosB m) && (R.1.drop m).all fun r => decide (r.take m = R.2.take m)
theorem opIx0 {p : Int × Int} {T : Sto} : oIx (frp p) (.int 0) T = some (.int p.1, T) := rfl
theorem spec9 (k : Nat) {R : RU} {n : Nat} (S : Sto) (w : WR R n) (m : Nat) : (semT tb (k + 1)).c 9 [rul R, .int (m : Int)] S = .ok (.bl (partedB R m)) S := by
  rw [e9]
  have n6 := w.h6
  refine RO.fin (ro_g (v := rul R) (e_v rfl) rfl fun T1 p1 => ?_) rfl
  have t1 : EB (tBl (m2 cNe (mLc [4, 5] (gV 5) (tBl (m2 cNe (mLc [4, 6] (gV 6) (tBl (m2 cNe (m2 oIx (mV 6) (mC (.int (0)))) (mC (.int (0))))) (mV 6) (iA (mSl (mV 5) (some (mV 1)) none))) (mLst aN))) (mV 5) (iA (mSl (mV 2) none (some (mV 1))))) (mLst aN))) ⟨(semT tb k).c, (semT tb k).l, fun _ => .err⟩ [.pv (rul R), .pv (.int (m : Int)), .pv (.tup (R.1.map pol)), .pv (pol R.2), .un, .un, .un] T1 (!(R.1.take m).all (zerosB m)) := by
    refine (eb_bl (e_2b (el_lc (p := fun x => !(((untup x).drop m).filter nzP).isEmpty) (f := id) (xs := (R.1.take m).map pol) (i_tup ((e_sl (xs := R.1.map pol) (l := none) (h := some (m : Int)) (e_v rfl) trivial (e_v rfl)).cast (by rw [cutP_takeA, List.map_take]))) (fun x hx => ?_) ?_) (el_lst ea_n) (fun T i j c d => cNe_nilR c d ?_))).cast ?_
    · obtain ⟨r, hr, rfl⟩ := List.mem_map.mp hx
      refine ⟨_, rfl, eb_bl ?_, fun _ => e_v rfl⟩
      refine (e_2b (xs := ((r.map frp).drop m).filter nzP) ((el_lc (p := nzP) (f := id) (xs := (r.map frp).drop m) (i_tup ((e_sl (xs := r.map frp) (l := some (m : Int)) (h := none) (e_v rfl) (e_v rfl) trivial).cast (by rw [cutP_drop]))) (fun y hy => ?_) ?_).cast (List.map_id _)) (el_lst ea_n) (fun T i j c d => cNe_nilR c d ?_)).cast rfl
      · have hy' := List.mem_of_mem_drop hy
        obtain ⟨p, hp, rfl⟩ := List.mem_map.mp hy'
        exact ⟨_, rfl, eb_bl (e_2 (v := .int p.1) (w := .int 0) (e_2 (e_v rfl) e_c fun T => rfl) e_c fun T => rfl), fun _ => e_v rfl⟩
      · have h2 := w.l2 r (List.mem_of_mem_take hr)
        rw [List.length_drop, List.length_map]
        omega
      · intro y hy
        obtain ⟨p, hp, rfl⟩ := List.mem_map.mp (List.mem_of_mem_drop (List.mem_filter.mp hy).1)
        rfl
    · rw [List.length_map, List.length_take]
      have := w.l1
      omega
    · intro x hx
      rw [List.map_id] at hx
      obtain ⟨r, hr, rfl⟩ := List.mem_map.mp (List.mem_filter.mp hx).1
      exact okD_polv
    · rw [List.map_id, filter_isEmpty, List.all_map]
      congr 2
      funext r
      simp only [Function.comp, Bool.not_not]
      show (((r.map frp).drop m).filter nzP).isEmpty = zerosB m r
      rw [filter_isEmpty, ← List.map_drop, List.all_map]
      unfold zerosB
      congr 1
      funext p
      show (!(!decide (p.1 = 0))) = _
      rw [Bool.not_not]
  unfold partedB
  cases hb : (R.1.take m).all (zerosB m) with
  | false =>
    rw [hb] at t1
    exact ro_yes t1 fun T p => e_c
  | true =>
    rw [hb] at t1
    refine ro_no t1 fun T2 p2 => ro_r ?_
    refine (e_2b (el_lc (p := fun x => !decide (((untup x).map unf).take m = R.2.take m)) (f := id) (xs := (R.1.drop m).map pol) (i_tup ((e_sl (xs := R.1.map pol) (l := some (m : Int)) (h := none) (e_v rfl) (e_v rfl) trivial).cast (by rw [cutP_drop, List.map_drop]))) (fun x hx => ?_) ?_) (el_lst ea_n) (fun T i j c d => cEq_nilR c d ?_)).cast ?_
    · obtain ⟨r, hr, rfl⟩ := List.mem_map.mp hx
      refine ⟨_, rfl, (eb_bl (e_2 (v := pol (r.take m)) (w := pol (R.2.take m)) ((e_sl (xs := r.map frp) (l := none) (h := some (m : Int)) (e_v rfl) trivial (e_v rfl)).cast (by rw [cutP_takeA, ← List.map_take]; rfl)) ((e_sl (xs := R.2.map frp) (l := none) (h := some (m : Int)) (e_v rfl) trivial (e_v rfl)).cast (by rw [cutP_takeA, ← List.map_take]; rfl)) fun T => cNe_pol)).cast ?_, fun _ => e_v rfl⟩
      show _ = !decide (((r.map frp).map unf).take m = R.2.take m)
      rw [map_unf]
    · rw [List.length_map, List.length_drop]
      have := w.l1
      omega
    · intro x hx
      rw [List.map_id] at hx
      obtain ⟨r, hr, rfl⟩ := List.mem_map.mp (List.mem_filter.mp hx).1
      exact okD_polv
    · rw [List.map_id, filter_isEmpty, List.all_map, Bool.true_and]
      congr 2
      funext r
      show (!(!decide (((r.map frp).map unf).take m = R.2.take m))) = _
      rw [Bool.not_not, map_unf]
end Lk

set_option Elab.async false
set_option linter.all false
set_option maxRecDepth 100000
set_option maxHeartbeats 0
namespace Lk
open PySem PySem.Spec PyProof.Rows L2 Mi
theorem belows_nls {n : Nat} : ∀ {l : List Nat}, belows n (nls l) = true
  | [] => by simp only [nls, List.map_nil, belows]
  | j :: l => by
    have ih := belows_nls (n := n) (l := l)
    unfold nls at ih ⊢
    rw [List.map_cons, belows, ih, Bool.and_true]
    simp only [below]
def placesN (R : RU) (n : Nat) : List Nat := (List.range' 1 (n - 1)).filter (partedB R)
def pI (p : Nat → Bool) : PV → Bool
  | .int j => p j.toNat
  | _ => false
theorem filter_nls {p : Nat → Bool} {l : List Nat} : (nls l).filter (pI p) = nls (l.filter p) := by
  unfold nls
  rw [List.filter_map]
  rfl
theorem e_lenE {cl : Cl} {env : Mi.Env} {S : Sto} {R : RU} {n : Nat} (w : WR R n) (h : env[0]? = some (.pv (rul R))) : E (mL bLen (aC (m2 oIx (mV 0) (mC (.int (1)))) aN)) cl env S (.int (n : Int)) :=
  e_L (ea_c (v := pol R.2) (e_2 (e_v h) e_c fun T => rfl) ea_n) fun T => by
    have : pol R.2 = .tup (R.2.map frp) := rfl
    rw [this, bLen_tup, List.length_map, w.l3]
theorem spec10 (k : Nat) {R : RU} {n : Nat} (S : Sto) (w : WR R n) : (semT tb (k + 2)).c 10 [rul R] S = .ok (.lst S.length) (S ++ [.lst (nls (placesN R n))]) := by
  rw [e10]
  have n6 := w.h6
  refine RL.fin (rl_new ((en_lc (p := pI (partedB R)) (f := id) (xs := nls (List.range' 1 (n - 1))) (i_rng2 (a := 1) (b := n) (by omega) (by omega) e_c (e_lenE w rfl)) (fun x hx => ?_) ?_).cast ?_)) belows_nls
  · obtain ⟨j, hj, rfl⟩ := List.mem_map.mp hx
    refine ⟨_, rfl, eb_tru (e_call (ea_c (e_v rfl) (ea_c (e_v rfl) ea_n)) fun T _ => ?_), fun _ => e_v rfl⟩
    exact spec9 k T w j
  · unfold nls
    rw [List.length_map, List.length_range']
    omega
  · rw [List.map_id, filter_nls]
    rfl
def cutN (lo hi : Nat) {α : Type} (l : List α) : List α := (l.drop lo).take (hi - lo)
def partN (R : RU) (lo hi : Nat) : RU := ((cutN lo hi R.1).map (cutN lo hi), cutN lo hi R.2)
theorem e_cut {cl : Cl} {env : Mi.Env} {S : Sto} {i a b lo hi : Nat} {xs : List PV} (h : env[i]? = some (.pv (.tup xs))) (h1 : env[a]? = some (.pv (.int (lo : Int)))) (h2 : env[b]? = some (.pv (.int (hi : Int)))) (l1 : lo ≤ hi) (l2 : hi ≤ xs.length) : E (mSl (mV i) (some (mV a)) (some (mV b))) cl env S (.tup (cutN lo hi xs)) :=
  (e_sl (xs := xs) (l := some (lo : Int)) (h := some (hi : Int)) (e_v h) (e_v h1) (e_v h2)).cast (by rw [cutP_mid l1 l2]; rfl)
theorem cutN_map {α β : Type} {f : α → β} {lo hi : Nat} {l : List α} : cutN lo hi (l.map f) = (cutN lo hi l).map f := by
  unfold cutN
  rw [← List.map_drop, ← List.map_take]
theorem spec11 (k : Nat) {R : RU} {n : Nat} (S : Sto) (w : WR R n) {lo hi : Nat} (l1 : lo ≤ hi) (l2 : hi ≤ n) : (semT tb (k + 1)).c 11 [rul R, .int (lo : Int), .int (hi : Int)] S = .ok (rul (partN R lo hi)) S := by
  rw [e11]
  have n6 := w.h6
  have ln := w.l1
  refine RO.fin (ro_g (v := rul R) (e_v rfl) rfl fun T1 p1 => ro_r (e_tup (ea_c (v := .tup ((partN R lo hi).1.map pol)) ((e_Ll (xs := (cutN lo hi (R.1.map pol)).map fun x => .tup (cutN lo hi (untup x))) (el_lcY (i_tup (e_cut (xs := R.1.map pol) rfl rfl rfl l1 (by rw [List.length_map]; omega))) (fun x hx => ?_) ?_) fun T i c => bTup_c c).cast ?_) (ea_c (v := pol (partN R lo hi).2) ((e_cut (xs := R.2.map frp) rfl rfl rfl l1 (by rw [List.length_map, w.l3]; exact l2)).cast ?_) ea_n)))) ?_
  · rw [cutN_map] at hx
    obtain ⟨r, hr, rfl⟩ := List.mem_map.mp hx
    have hr' : r ∈ R.1 := List.mem_of_mem_drop (List.mem_of_mem_take hr)
    exact ⟨_, rfl, e_cut (xs := r.map frp) rfl rfl rfl l1 (by rw [List.length_map, w.l2 r hr']; exact l2)⟩
  · unfold cutN
    rw [List.length_take, List.length_drop, List.length_map]
    omega
  · rw [cutN_map, List.map_map]
    show PV.tup _ = PV.tup (((cutN lo hi R.1).map (cutN lo hi)).map pol)
    rw [List.map_map]
    congr 1
    apply List.map_congr_left
    intro r _
    show PV.tup (cutN lo hi (r.map frp)) = _
    rw [cutN_map]
    rfl
  · rw [cutN_map]
    rfl
  · exact below_rul
end Lk

set_option Elab.async false
set_option linter.all false
set_option maxRecDepth 100000
set_option maxHeartbeats 0
namespace Lk
open PySem PySem.Spec PyProof.Rows L2 Mi
theorem below_nlsT {n : Nat} {l : List Nat} : below n (.tup (nls l)) = true := by unfold below; exact belows_nls
theorem spec12 (k : Nat) {R : RU} {n : Nat} (S : Sto) (w : WR R n) : (semT tb (k + 5)).c 12 [rul R] S = .ok (.tup (nls (placesN R n))) S := by
  rw [e12]
  exact RO.fin (ro_x (e_call (ea_c (e_v rfl) ea_n) fun T _ => spec8 k T w) fun T1 p1 => ro_r (e_Ll (el_call (ea_c (e_v rfl) ea_n) fun T _ => spec10 (k + 2) T w) fun T i c => bTup_c c)) below_nlsT
theorem spec0 (k : Nat) (i lo hi : Int) (S : Sto) : (semT tb (k + 1)).c 0 [.int i, .int lo, .int hi] S = .ok (.bl (decide (lo ≤ i) && decide (i ≤ hi))) S := by
  rw [e0]
  refine RO.fin (ro_r ((e_and (x := true) (fun T p => ⟨T, rfl, List.prefix_rfl⟩) fun _ => e_and (x := true) (e_no (x := false) (fun T p => ⟨T, rfl, List.prefix_rfl⟩)) fun _ => e_ch (b1 := decide (lo ≤ i)) (b2 := decide (i ≤ hi)) (e_v rfl) (e_v rfl) (fun T => rfl) (e_v rfl) fun T => rfl).cast rfl)) rfl
def okPl (R : RU) (n m : Nat) : Bool := decide (1 ≤ m) && decide (m + 1 ≤ n) && partedB R m
theorem e_len1 {cl : Cl} {env : Mi.Env} {S : Sto} {R : RU} {n : Nat} (w : WR R n) (h : env[0]? = some (.pv (rul R))) : E (m2 opSub (mL bLen (aC (m2 oIx (mV 0) (mC (.int (1)))) aN)) (mC (.int (1)))) cl env S (.int ((n : Int) - 1)) :=
  e_2 (e_lenE w h) e_c fun T => rfl
theorem t13 (k : Nat) {R : RU} {n : Nat} {S : Sto} (w : WR R n) (m : Nat) : EB (tO (tNo (tTru (mCall 0 (aC (mV 1) (aC (mC (.int (1))) (aC (m2 opSub (mL bLen (aC (m2 oIx (mV 0) (mC (.int (1)))) aN)) (mC (.int (1)))) aN)))))) (tNo (tTru (mCall 9 (aC (mV 0) (aC (mV 1) aN)))))) ⟨(semT tb (k + 4)).c, (semT tb (k + 4)).l, fun _ => .err⟩ [.pv (rul R), .pv (.int (m : Int))] S (!okPl R n m) := by
  refine (eb_or (eb_no (eb_tru (e_call (ea_c (e_v rfl) (ea_c e_c (ea_c (e_len1 w rfl) ea_n))) fun T _ => spec0 (k + 3) (m : Int) 1 ((n : Int) - 1) T))) fun _ => eb_no (eb_tru (e_call (ea_c (e_v rfl) (ea_c (e_v rfl) ea_n)) fun T _ => spec9 (k + 3) T w m))).cast ?_
  unfold okPl
  have h1 : decide ((1 : Int) ≤ (m : Int)) = decide (1 ≤ m) := by
    by_cases h : 1 ≤ m
    · rw [decide_eq_true h, decide_eq_true (by omega)]
    · rw [decide_eq_false h, decide_eq_false (by omega)]
  have h2 : decide ((m : Int) ≤ (n : Int) - 1) = decide (m + 1 ≤ n) := by
    by_cases h : m + 1 ≤ n
    · rw [decide_eq_true h, decide_eq_true (by omega)]
    · rw [decide_eq_false h, decide_eq_false (by omega)]
  rw [h1, h2]
  cases decide (1 ≤ m) <;> cases decide (m + 1 ≤ n) <;> cases partedB R m <;> rfl
theorem spec13 (k : Nat) {R : RU} {n m : Nat} (S : Sto) (w : WR R n) (h : okPl R n m = true) : (semT tb (k + 5)).c 13 [rul R, .int (m : Int)] S = .ok (.tup [rul (partN R 0 m), rul (partN R m n)]) S := by
  rw [e13]
  have hm : m ≤ n := by
    simp only [okPl, Bool.and_eq_true, decide_eq_true_eq] at h
    omega
  refine RO.fin (ro_x (e_call (ea_c (e_v rfl) ea_n) fun T _ => spec8 k T w) fun T1 p1 => ro_no ((t13 k w m).cast (by rw [h]; rfl)) fun T2 p2 => ro_r (e_tup (ea_c (e_call (ea_c (e_v rfl) (ea_c e_c (ea_c (e_v rfl) ea_n))) fun T _ => ?_) (ea_c (e_call (ea_c (e_v rfl) (ea_c (e_v rfl) (ea_c (e_lenE w rfl) ea_n))) fun T _ => ?_) ea_n)))) ?_
  · exact spec11 (k + 3) T w (lo := 0) (hi := m) (Nat.zero_le _) hm
  · exact spec11 (k + 3) T w hm (Nat.le_refl _)
  · simp only [below, belows, below_rul, Bool.and_true]
theorem spec13e (k : Nat) {R : RU} {n m : Nat} (S : Sto) (w : WR R n) (h : okPl R n m = false) : (semT tb (k + 5)).c 13 [rul R, .int (m : Int)] S = .exc 43 none S := by
  rw [e13]
  exact RX.fin (rx_skip (e_call (ea_c (e_v rfl) ea_n) fun T _ => spec8 k T w) fun T1 p1 => rx_raise ((t13 k w m).cast (by rw [h]; rfl)))
/-! ### all parts -/
def endsN (R : RU) (n : Nat) : List Nat := [0] ++ placesN R n ++ [n]
theorem zip_tail {l : List Nat} (h : l.Pairwise (· < ·)) : ∀ p ∈ l.zip l.tail, p.1 < p.2 ∧ p.1 ∈ l ∧ p.2 ∈ l ∧ ∀ q ∈ l, q ≤ p.1 ∨ p.2 ≤ q := by
  induction l with
  | nil => intro p hp; cases hp
  | cons a l ih =>
    intro p hp
    cases l with
    | nil => cases hp
    | cons b l =>
      have hp' : p = (a, b) ∨ p ∈ (b :: l).zip l := by
        have : p ∈ (a, b) :: (b :: l).zip l := hp
        exact List.mem_cons.mp this
      obtain ⟨h1, h2⟩ := List.pairwise_cons.mp h
      rcases hp' with e | hp'
      · subst e
        refine ⟨h1 b (by simp), by simp, by simp, fun q hq => ?_⟩
        rcases List.mem_cons.mp hq with e | hq
        · exact .inl (by rw [e]; exact Nat.le_refl _)
        · rcases List.mem_cons.mp hq with e | hq
          · exact .inr (by rw [e]; exact Nat.le_refl _)
          · exact .inr (Nat.le_of_lt ((List.pairwise_cons.mp h2).1 q hq))
      · obtain ⟨q1, q2, q3, q4⟩ := ih h2 p hp'
        refine ⟨q1, List.mem_cons_of_mem _ q2, List.mem_cons_of_mem _ q3, fun q hq => ?_⟩
        rcases List.mem_cons.mp hq with e | hq
        · exact .inl (by rw [e]; exact Nat.le_of_lt (h1 _ q2))
        · exact q4 q hq
theorem places_in {R : RU} {n j : Nat} : j ∈ placesN R n ↔ 1 ≤ j ∧ j < n ∧ partedB R j = true := by
  unfold placesN
  rw [List.mem_filter, List.mem_range'_1]
  constructor
  · rintro ⟨⟨h1, h2⟩, h3⟩; exact ⟨h1, by omega, h3⟩
  · rintro ⟨h1, h2, h3⟩; exact ⟨⟨h1, by omega⟩, h3⟩
theorem places_up {R : RU} {n : Nat} : (placesN R n).Pairwise (· < ·) := List.Pairwise.filter _ List.pairwise_lt_range'
theorem ends_up {R : RU} {n : Nat} (hn : 1 ≤ n) : (endsN R n).Pairwise (· < ·) := by
  unfold endsN
  refine List.pairwise_append.mpr ⟨List.pairwise_append.mpr ⟨List.pairwise_singleton _ _, places_up, fun a ha b hb => ?_⟩, List.pairwise_singleton _ _, fun a ha b hb => ?_⟩
  · rw [List.mem_singleton.mp ha]
    exact (places_in.mp hb).1
  · rw [List.mem_singleton.mp hb]
    rcases List.mem_append.mp ha with h | h
    · rw [List.mem_singleton.mp h]; exact hn
    · exact (places_in.mp h).2.1
theorem ends_le {R : RU} {n : Nat} : ∀ j ∈ endsN R n, j ≤ n := fun j hj => by
  unfold endsN at hj
  rcases List.mem_append.mp hj with h | h
  · rcases List.mem_append.mp h with h | h
    · rw [List.mem_singleton.mp h]; exact Nat.zero_le _
    · exact Nat.le_of_lt (places_in.mp h).2.1
  · rw [List.mem_singleton.mp h]; exact Nat.le_refl _
def wholly (R : RU) (n : Nat) : List RU := ((endsN R n).zip (endsN R n).tail).map fun p => partN R p.1 p.2
def natP : PV → Nat
  | .int j => j.toNat
  | _ => 0
theorem ends_len {R : RU} {n : Nat} (h6 : n ≤ 6) : (endsN R n).length ≤ 20 := by
  unfold endsN
  have : (placesN R n).length ≤ n - 1 := by
    unfold placesN
    exact Nat.le_trans (List.length_filter_le _ _) (by rw [List.length_range']; exact Nat.le_refl _)
  simp only [List.length_append, List.length_singleton]
  omega
theorem nls_app {a b : List Nat} : nls (a ++ b) = nls a ++ nls b := List.map_append
theorem nls_len {a : List Nat} : (nls a).length = a.length := List.length_map _
theorem zip_nls {a b : List Nat} : (nls a).zip (nls b) = (a.zip b).map fun p => (PV.int (p.1 : Int), PV.int (p.2 : Int)) := by
  unfold nls
  rw [List.zip_map]
  rfl
theorem spec14 (k : Nat) {R : RU} {n : Nat} (S : Sto) (w : WR R n) : (semT tb (k + 5)).c 14 [rul R] S = .ok (.tup ((wholly R n).map rul)) S := by
  rw [e14]
  have n6 := w.h6
  have le := ends_len (R := R) w.h6
  have hw : PV.tup ((wholly R n).map rul) = .tup (((nls (endsN R n)).zip (nls (endsN R n).tail)).map fun p => rul (partN R (natP p.1) (natP p.2))) := by
    rw [zip_nls]
    unfold wholly
    rw [List.map_map, List.map_map]
    rfl
  refine RO.fin (ro_x (e_call (ea_c (e_v rfl) ea_n) fun T _ => spec8 k T w) fun T1 p1 => ro_sl (xs := nls (endsN R n)) ((el_add (xs := nls [0] ++ nls (placesN R n)) (ys := nls [n]) (el_add (el_lst (ea_c e_c ea_n)) (el_call (ea_c (e_v rfl) ea_n) fun T _ => spec10 (k + 2) T w) ?_) (el_lst (ea_c (e_lenE w rfl) ea_n)) ?_).cast ?_) fun T2 j p2 c2 => ro_r ?_) ?_
  · have : (endsN R n).length = 1 + (placesN R n).length + 1 := by unfold endsN; simp only [List.length_append, List.length_singleton]
    simp only [nls_len, List.length_singleton]
    omega
  · have : (endsN R n).length = 1 + (placesN R n).length + 1 := by unfold endsN; simp only [List.length_append, List.length_singleton]
    simp only [List.length_append, nls_len, List.length_singleton]
    omega
  · unfold endsN
    rw [nls_app, nls_app]
  · rw [hw]
    refine e_Ll (el_lz (f := fun x y => rul (partN R (natP x) (natP y))) (el_v rfl c2) ((el_sl (l := some 1) (h := none) (el_v rfl c2) e_c trivial).cast (?_ : _ = nls (endsN R n).tail)) (fun p hp => ?_) ?_) fun T i c => bTup_c c
    · have := cutP_drop (xs := nls (endsN R n)) (m := 1)
      rw [show ((1 : Nat) : Int) = 1 from rfl] at this
      rw [this]
      unfold nls
      rw [← List.map_drop, List.drop_one]
    · rw [zip_nls] at hp
      obtain ⟨q, hq, rfl⟩ := List.mem_map.mp hp
      obtain ⟨q1, q2, q3, q4⟩ := zip_tail (ends_up w.h1) q hq
      refine ⟨_, rfl, e_call (ea_c (e_v rfl) (ea_c (e_v rfl) (ea_c (e_v rfl) ea_n))) fun T _ => ?_⟩
      exact spec11 (k + 3) T w (Nat.le_of_lt q1) (ends_le _ q3)
    · rw [List.length_zip, nls_len]
      omega
  · unfold below
    have : ∀ l : List RU, belows S.length (l.map rul) = true := by
      intro l
      induction l with
      | nil => simp only [List.map_nil, belows]
      | cons a l ih => rw [List.map_cons, belows, ih, below_rul]; rfl
    exact this _
end Lk

set_option Elab.async false
set_option linter.all false
set_option maxRecDepth 100000
set_option maxHeartbeats 0
namespace Lk
open PySem PySem.Spec PyProof.Rows L2 Mi
def z11 : Int × Int := (1, 1)
theorem Fr11 : Fr 1 z11 := ⟨⟨by decide, by decide⟩, by decide, by decide⟩
theorem tm_one {p : Int × Int} (hp : Red p) : tm p z11 = p := by
  unfold tm
  have e1 : p.1 * z11.1 = p.1 := Int.mul_one _
  have e2 : p.2 * z11.2 = p.2 := Int.mul_one _
  rw [e1, e2]
  exact val_red hp
theorem spec15 (k : Nat) {r : FL} (S : Sto) (hr : ∀ p ∈ r, Fr 3 p) (hl : r.length ≤ 100) : (semT tb (k + 3)).c 15 [pol r, frp z11] S = .ok (pol r) S := by
  rw [e15]
  refine RO.fin (ro_r ((e_Ll (el_lcY (f := id) (xs := r.map frp) (i_tup (e_v rfl)) (fun x hx => ?_) (by rw [List.length_map]; omega)) fun T i c => bTup_c c).cast (by rw [List.map_id]; rfl))) below_pol
  obtain ⟨p, hp, rfl⟩ := List.mem_map.mp hx
  refine ⟨_, rfl, e_call (ea_c (e_v rfl) (ea_c (e_v rfl) ea_n)) fun T _ => ?_⟩
  have s := spec6 k T (hr p hp) Fr11 (by decide)
  rw [tm_one (hr p hp).toRed] at s
  exact s
theorem spec16 (k : Nat) {R : RU} {n : Nat} (S : Sto) (w : WR R n) : (semT tb (k + 4)).c 16 [rul R, frp z11] S = .ok (rul R) S := by
  rw [e16]
  have n6 := w.h6
  have ln := w.l1
  refine RO.fin (ro_g (v := rul R) (e_v rfl) rfl fun T1 p1 => ro_r (e_tup (ea_c (v := .tup (R.1.map pol)) ((e_Ll (el_lcY (f := id) (xs := R.1.map pol) (i_tup (e_v rfl)) (fun x hx => ?_) (by rw [List.length_map]; omega)) fun T i c => bTup_c c).cast (by rw [List.map_id])) (ea_c (v := pol R.2) (e_call (ea_c (e_v rfl) (ea_c (e_v rfl) ea_n)) fun T _ => ?_) ea_n)))) below_rul
  · obtain ⟨r, hr, rfl⟩ := List.mem_map.mp hx
    refine ⟨_, rfl, e_call (ea_c (e_v rfl) (ea_c (e_v rfl) ea_n)) fun T _ => ?_⟩
    exact spec15 k T (w.f r hr) (by rw [w.l2 r hr]; omega)
  · exact spec15 k T w.g (by rw [w.l3]; omega)
def joinR (A B : RU) : RU := (A.1.map (fun r => r ++ List.replicate B.2.length z01) ++ B.1.map (fun r => A.2 ++ r), A.2 ++ B.2)
theorem opMul_nul {S : Sto} {m : Nat} (h : m ≤ 1000) : opMul (.tup [.tup [.int 0, .int 1]]) (.int (m : Int)) S = some (pol (List.replicate m z01), S) := by
  show (if (m : Int) ≤ 1000 ∧ -1000 ≤ (m : Int) ∧ 1 ≤ 1000 then some (PV.tup (repP [.tup [.int 0, .int 1]] (m : Int)), S) else none) = _
  rw [if_pos ⟨by omega, by omega, by omega⟩, repP_one]
  unfold pol
  rw [List.map_replicate]
  rfl
theorem spec18 (k : Nat) {A B : RU} {a b : Nat} (S : Sto) (wA : WR A a) (wB : WR B b) : (semT tb (k + 1)).c 18 [rul A, rul B] S = .ok (rul (joinR A B)) S := by
  rw [e18]
  have a6 := wA.h6
  have b6 := wB.h6
  have la := wA.l1
  have lb := wB.l1
  have la3 := wA.l3
  have lb3 := wB.l3
  refine RO.fin (ro_g (v := rul A) (e_v rfl) rfl fun T1 p1 => ro_g (v := rul B) (e_v rfl) rfl fun T2 p2 => ro_s (v := .tup ((A.1.map fun r => r ++ List.replicate B.2.length z01).map pol)) ((e_Ll (el_lcY (f := fun x => .tup (untup x ++ (List.replicate B.2.length z01).map frp)) (xs := A.1.map pol) (i_tup (e_v rfl)) (fun x hx => ?_) (by rw [List.length_map]; omega)) fun T i c => bTup_c c).cast ?_) fun T3 p3 => ro_r (e_tup (ea_c (v := .tup ((joinR A B).1.map pol)) (e_2 (v := .tup ((A.1.map fun r => r ++ List.replicate B.2.length z01).map pol)) (w := .tup ((B.1.map fun r => A.2 ++ r).map pol)) (e_v rfl) ((e_Ll (el_lcY (f := fun x => .tup (A.2.map frp ++ untup x)) (xs := B.1.map pol) (i_tup (e_v rfl)) (fun x hx => ?_) (by rw [List.length_map]; omega)) fun T i c => bTup_c c).cast ?_) fun T => ?_) (ea_c (v := pol (joinR A B).2) (e_2 (v := pol A.2) (w := pol B.2) (e_v rfl) (e_v rfl) fun T => ?_) ea_n)))) below_rul
  · obtain ⟨r, hr, rfl⟩ := List.mem_map.mp hx
    have := wA.l2 r hr
    refine ⟨_, rfl, e_2 (v := pol r) (w := pol (List.replicate B.2.length z01)) (e_v rfl) (e_2 (v := .tup [.tup [.int 0, .int 1]]) (w := .int (B.2.length : Int)) (e_tup (ea_c e_c ea_n)) (e_L (ea_c (v := pol B.2) (e_v rfl) ea_n) fun T => bLen_pol) fun T => opMul_nul (by omega)) fun T => ?_⟩
    rw [opAdd_pol (by rw [List.length_replicate]; omega)]
    unfold pol
    rw [List.map_append]
    rfl
  · rw [List.map_map, List.map_map]
    congr 1
    apply List.map_congr_left
    intro r _
    show PV.tup (r.map frp ++ _) = PV.tup ((r ++ _).map frp)
    rw [List.map_append]
  · obtain ⟨r, hr, rfl⟩ := List.mem_map.mp hx
    have := wB.l2 r hr
    refine ⟨_, rfl, e_2 (v := pol A.2) (w := pol r) (e_v rfl) (e_v rfl) fun T => ?_⟩
    rw [opAdd_pol (by omega)]
    unfold pol
    rw [List.map_append]
    rfl
  · rw [List.map_map, List.map_map]
    congr 1
    apply List.map_congr_left
    intro r _
    show PV.tup (A.2.map frp ++ r.map frp) = PV.tup ((A.2 ++ r).map frp)
    rw [List.map_append]
  · rw [opAdd_tup (by simp only [List.length_map]; omega), ← List.map_append]
    rfl
  · exact opAdd_pol (by omega)
theorem spec20 (k : Nat) {i : Int} (S : Sto) (h : i ≤ 6) : (semT tb (k + 1)).c 20 [.int i] S = .ok .non S := by
  rw [e20]
  exact RO.fin (ro_no (eb_bl (e_2 (v := .int i) (w := .int 6) (e_v rfl) e_c fun T => by
    show some (PV.bl (decide (6 < i)), T) = _
    rw [decide_eq_false (by omega)])) fun T _ => ro_n) rfl
theorem spec21 (k : Nat) {A B : RU} {a b : Nat} (S : Sto) (wA : WR A a) (wB : WR B b) (h : a + b ≤ 6) : (semT tb (k + 5)).c 21 [rul A, rul B, frp z11, frp z11] S = .ok .non S := by
  rw [e21]
  refine RO.fin (ro_x (e_call (ea_c (e_v rfl) ea_n) fun T _ => spec8 k T wA) fun T1 p1 => ro_x (e_call (ea_c (e_v rfl) ea_n) fun T _ => spec8 k T wB) fun T2 p2 => ro_x (e_call (ea_c (e_v rfl) ea_n) fun T _ => spec4 (k + 1) T Fr11.toRed) fun T3 p3 => ro_x (e_call (ea_c (e_v rfl) ea_n) fun T _ => spec4 (k + 1) T Fr11.toRed) fun T4 p4 => ro_x (e_call (ea_c (v := .int ((a : Int) + (b : Int))) (e_2 (v := .int (a : Int)) (w := .int (b : Int)) (e_L (ea_c (v := pol A.2) (e_2 (v := rul A) (w := .int 1) (e_v rfl) e_c fun T => rfl) ea_n) fun T => by rw [bLen_pol, wA.l3]) (e_L (ea_c (v := pol B.2) (e_2 (v := rul B) (w := .int 1) (e_v rfl) e_c fun T => rfl) ea_n) fun T => by rw [bLen_pol, wB.l3]) fun T => rfl) ea_n) fun T _ => spec20 (k + 3) T (by omega)) fun T5 p5 => ro_n) rfl
theorem spec22 (k : Nat) {A B : RU} {a b : Nat} (S : Sto) (wA : WR A a) (wB : WR B b) (h : a + b ≤ 6) : (semT tb (k + 6)).c 22 [rul A, rul B, frp z11, frp z11] S = .ok (rul (joinR A B)) S := by
  rw [e22]
  exact RO.fin (ro_x (e_call (ea_c (e_v rfl) (ea_c (e_v rfl) (ea_c (e_v rfl) (ea_c (e_v rfl) ea_n)))) fun T _ => spec21 k T wA wB h) fun T1 p1 => ro_r (e_call (ea_c (v := rul A) (e_call (ea_c (e_v rfl) (ea_c (e_v rfl) ea_n)) fun T _ => spec16 (k + 1) T wA) (ea_c (v := rul B) (e_call (ea_c (e_v rfl) (ea_c (e_v rfl) ea_n)) fun T _ => spec16 (k + 1) T wB) ea_n)) fun T _ => spec18 (k + 4) T wA wB)) below_rul
end Lk

set_option Elab.async false
set_option linter.all false
set_option maxRecDepth 100000
set_option maxHeartbeats 0
namespace Lk
open PySem PySem.Spec PyProof.Rows L2 Mi
theorem dI_lt (a b : Nat) : decide ((a : Int) < (b : Int)) = decide (a < b) := by
  by_cases h : a < b
  · rw [decide_eq_true h, decide_eq_true (by omega)]
  · rw [decide_eq_false h, decide_eq_false (by omega)]
theorem dI_le (a b : Nat) : decide ((a : Int) ≤ (b : Int)) = decide (a ≤ b) := by
  by_cases h : a ≤ b
  · rw [decide_eq_true h, decide_eq_true (by omega)]
  · rw [decide_eq_false h, decide_eq_false (by omega)]
theorem cNe_frp {T : Sto} {p q : Int × Int} : cNe (frp p) (frp q) T = some (.bl (!decide (p = q)), T) := by
  have h1 : okD T 64 (frp p) = true := okD_frp (n := 62)
  have h2 : okD T 64 (frp q) = true := okD_frp (n := 62)
  have h3 : eqD T 64 (frp p) (frp q) = decide (p = q) := eqD_frp (n := 62)
  unfold cNe
  rw [h1, h2, h3]
  rfl
theorem getD_some {r : FL} {j : Nat} {p : Int × Int} (h : r[j]? = some p) : r.getD j z01 = p := by
  rw [List.getD_eq_getElem?_getD, h]; rfl
theorem get_getD {F : FL} {j : Nat} (h : j < F.length) : F[j]? = some (F.getD j z01) := by
  rw [List.getD_eq_getElem?_getD, List.getElem?_eq_getElem h]; rfl
def badP (ends : FL) (m at' spot : Nat) (own : Int × Int) : Bool := (decide (at' < m) && (decide (m ≤ spot) && !decide (own.1 = 0))) || (decide (m ≤ at') && (decide (spot < m) && !decide (own = ends.getD spot z01)))
def cond34 : MB := tO (tAn (tBl (m2 (cInt fun i j => decide (i < j)) (mV 6) (mV 4))) (tAn (tBl (m2 (cInt fun i j => decide (j ≤ i)) (mV 8) (mV 4))) (tBl (m2 cNe (m2 oIx (mV 9) (mC (.int (0)))) (mC (.int (0))))))) (tAn (tBl (m2 (cInt fun i j => decide (j ≤ i)) (mV 6) (mV 4))) (tAn (tBl (m2 (cInt fun i j => decide (i < j)) (mV 8) (mV 4))) (tBl (m2 cNe (mV 9) (m2 oIx (mV 2) (mV 8))))))
theorem cond34_ok {cl : Cl} {S : Sto} {s0 s1 s3 s5 s7 : Slot} {ends : FL} {m at' spot : Nat} {own : Int × Int} (hs : spot < ends.length) : EB cond34 cl [s0, s1, .pv (pol ends), s3, .pv (.int (m : Int)), s5, .pv (.int (at' : Int)), s7, .pv (.int (spot : Int)), .pv (frp own)] S (badP ends m at' spot own) := by
  unfold cond34 badP
  refine eb_or (eb_and (eb_bl (e_2 (e_v rfl) (e_v rfl) fun T => ?_)) fun _ => eb_and (eb_bl (e_2 (e_v rfl) (e_v rfl) fun T => ?_)) fun _ => eb_bl (e_2 (v := .int own.1) (w := .int 0) (e_2 (e_v rfl) e_c fun T => rfl) e_c fun T => rfl)) fun _ => eb_and (eb_bl (e_2 (e_v rfl) (e_v rfl) fun T => ?_)) fun _ => eb_and (eb_bl (e_2 (e_v rfl) (e_v rfl) fun T => ?_)) fun _ => eb_bl (e_2 (v := frp own) (w := frp (ends.getD spot z01)) (e_v rfl) (e_2 (v := pol ends) (w := .int (spot : Int)) (e_v rfl) (e_v rfl) fun T => oIx_tup (get_getD hs)) fun T => cNe_frp)
  · show some (PV.bl (decide ((at' : Int) < (m : Int))), T) = _
    rw [dI_lt]
  · show some (PV.bl (decide ((m : Int) ≤ (spot : Int))), T) = _
    rw [dI_le]
  · show some (PV.bl (decide ((m : Int) ≤ (at' : Int))), T) = _
    rw [dI_le]
  · show some (PV.bl (decide ((spot : Int) < (m : Int))), T) = _
    rw [dI_lt]
def ib34 : MS := sQ (sI cond34 (sQ (sX (mMt 1 mApp (mV 5) (aC (mTup (aC (mV 6) (aC (mV 8) aN))) aN))) sN) sN) sN
def okA (A : List PV) : Prop := ∀ x ∈ A, ∀ T : Sto, okD T 63 x = true
structure In34 (R : RU) (B : Sto) (j ja m at' : Nat) (r : FL) (F : List PV) (f0 : Bool) (L : Nat) (i : Nat) (env : Mi.Env) (T : Sto) : Prop where
  en : ∃ s8 s9, env = [.pv (rul R), .pv (.tup (R.1.map pol)), .pv (pol R.2), .pv (.lst j), .pv (.int (m : Int)), .pv (.lst ja), .pv (.int (at' : Int)), .pv (pol r), s8, s9]
  pr : B <+: T
  fo : cellL T j = some F
  ah : ∃ A, cellL T ja = some A ∧ okA A ∧ A.length ≤ L + i ∧ A.isEmpty = (f0 && (List.range i).all fun spot => !badP R.2 m at' spot (r.getD spot z01))
theorem range_all {p : Nat → Bool} {i : Nat} : (List.range (i + 1)).all p = ((List.range i).all p && p i) := by
  rw [List.range_succ, List.all_append, List.all_cons, List.all_nil, Bool.and_true]
theorem inner34 {cl : Cl} {R : RU} {B T : Sto} {j ja m at' L : Nat} {r : FL} {F : List PV} {f0 : Bool} {env : Mi.Env} (hr : r.length ≤ R.2.length) (hl : L ≤ 1000) (hr6 : r.length ≤ 100) (hj : j ≠ ja) (hja : B.length ≤ ja) (h : In34 R B j ja m at' r F f0 L 0 env T) :
    ∃ e T2, sFo (gT (gC (gV 8) (gC (gV 9) gN))) (iE (aC (mV 7) aN)) ib34 cl env T = .nx e T2 ∧ In34 R B j ja m at' r F f0 L r.length e T2 := by
  obtain ⟨s8, s9, he⟩ := h.en
  have key := fo_en (cl := cl) (env := env) (S := T) (g := gT (gC (gV 8) (gC (gV 9) gN))) (b := ib34) (m := mV 7) (xs := r.map frp) (P := fun i env T' => In34 R B j ja m at' r F f0 L i env T')
    (by subst he; exact e_v rfl) (fun T' p => ⟨h.en, h.pr.trans p, cell_pre h.fo p, by
      obtain ⟨A, a1, a2, a3, a4⟩ := h.ah
      exact ⟨A, cell_pre a1 p, a2, a3, a4⟩⟩) (fun i x env T' hx hp => by
    have hi : i < r.length := by
      have := (List.getElem?_eq_some_iff.mp hx).1
      rwa [List.length_map] at this
    obtain ⟨p, hp0⟩ : ∃ p, r[i]? = some p := ⟨r[i], List.getElem?_eq_getElem hi⟩
    have ex : x = frp p := by
      rw [List.getElem?_map, hp0] at hx
      exact (Option.some.inj hx).symm
    subst ex
    obtain ⟨t8, t9, he⟩ := hp.en
    subst he
    obtain ⟨A, a1, a2, a3, a4⟩ := hp.ah
    have cd := cond34_ok (cl := cl) (S := T') (s0 := .pv (rul R)) (s1 := .pv (.tup (R.1.map pol))) (s3 := .pv (.lst j)) (s5 := .pv (.lst ja)) (s7 := .pv (pol r)) (ends := R.2) (m := m) (at' := at') (spot := i) (own := p) (by omega)
    refine ⟨[.pv (rul R), .pv (.tup (R.1.map pol)), .pv (pol R.2), .pv (.lst j), .pv (.int (m : Int)), .pv (.lst ja), .pv (.int (at' : Int)), .pv (pol r), .pv (.int (i : Int)), .pv (frp p)], ?_⟩
    cases hb : badP R.2 m at' i p with
    | false =>
      rw [hb] at cd
      obtain ⟨T1, q1, p1⟩ := if_f (a := sQ (sX (mMt 1 mApp (mV 5) (aC (mTup (aC (mV 6) (aC (mV 8) aN))) aN))) sN) (b := sN) cd
      refine ⟨_, T1, rfl, .inl (nx_q q1), ⟨_, _, rfl⟩, hp.pr.trans p1, cell_pre hp.fo p1, A, cell_pre a1 p1, a2, by omega, ?_⟩
      rw [range_all, getD_some hp0, hb, a4]
      simp
    | true =>
      rw [hb] at cd
      obtain ⟨T1, q1, p1⟩ := if_t (a := sQ (sX (mMt 1 mApp (mV 5) (aC (mTup (aC (mV 6) (aC (mV 8) aN))) aN))) sN) (b := sN) cd
      obtain ⟨T2, q2, p2⟩ := x_app (cl := cl) (env := [.pv (rul R), .pv (.tup (R.1.map pol)), .pv (pol R.2), .pv (.lst j), .pv (.int (m : Int)), .pv (.lst ja), .pv (.int (at' : Int)), .pv (pol r), .pv (.int (i : Int)), .pv (frp p)]) (i := 5) (m := mTup (aC (mV 6) (aC (mV 8) aN))) (v := .tup [.int (at' : Int), .int (i : Int)]) rfl (cell_pre a1 p1) (e_tup (ea_c (e_v rfl) (ea_c (e_v rfl) ea_n))) (by omega) (by simp only [below, belows, Bool.and_true])
      have c1 := cell_pre (cell_pre a1 p1) p2
      refine ⟨_, T2.set ja (.lst (A ++ [.tup [.int (at' : Int), .int (i : Int)]])), rfl, .inl (nx_q (q1.trans (nx_q q2))), ⟨_, _, rfl⟩, pre_set ((hp.pr.trans p1).trans p2) hja, by rw [cell_set_ne (Ne.symm hj)]; exact cell_pre (cell_pre hp.fo p1) p2, _, cell_set c1, ?_, by rw [List.length_append, List.length_singleton]; omega, ?_⟩
      · intro x hx U
        rcases List.mem_append.mp hx with h | h
        · exact a2 x h U
        · rw [List.mem_singleton.mp h]; rfl
      · rw [range_all, getD_some hp0, hb]
        cases A <;> simp)
  rw [List.length_map] at key
  exact key
end Lk

set_option Elab.async false
set_option linter.all false
set_option maxRecDepth 100000
set_option maxHeartbeats 0
namespace Lk
open PySem PySem.Spec PyProof.Rows L2 Mi
def mb34 : MS := sQ (sFo (gT (gC (gV 8) (gC (gV 9) gN))) (iE (aC (mV 7) aN)) ib34) sN
def rowOk (R : RU) (n m a : Nat) : Bool := (List.range n).all fun spot => !badP R.2 m a spot ((R.1.getD a []).getD spot z01)
structure Mid34 (R : RU) (n : Nat) (B : Sto) (j ja m : Nat) (F : List PV) (i : Nat) (env : Mi.Env) (T : Sto) : Prop where
  en : ∃ s6 s7 s8 s9, env = [.pv (rul R), .pv (.tup (R.1.map pol)), .pv (pol R.2), .pv (.lst j), .pv (.int (m : Int)), .pv (.lst ja), s6, s7, s8, s9]
  pr : B <+: T
  fo : cellL T j = some F
  ah : ∃ A, cellL T ja = some A ∧ okA A ∧ A.length ≤ 6 * i ∧ A.isEmpty = (List.range i).all (rowOk R n m)
theorem getD_row {R : RU} {a : Nat} {r : FL} (h : R.1[a]? = some r) : R.1.getD a [] = r := by
  rw [List.getD_eq_getElem?_getD, h]; rfl
theorem mid34 {cl : Cl} {R : RU} {n : Nat} {B T : Sto} {j ja m : Nat} {F : List PV} {env : Mi.Env} (w : WR R n) (hj : j ≠ ja) (hja : B.length ≤ ja) (h : Mid34 R n B j ja m F 0 env T) :
    ∃ e T2, sFo (gT (gC (gV 6) (gC (gV 7) gN))) (iE (aC (mV 1) aN)) mb34 cl env T = .nx e T2 ∧ Mid34 R n B j ja m F n e T2 := by
  obtain ⟨s6, s7, s8, s9, he⟩ := h.en
  have n6 := w.h6
  have key := fo_en (cl := cl) (env := env) (S := T) (g := gT (gC (gV 6) (gC (gV 7) gN))) (b := mb34) (m := mV 1) (xs := R.1.map pol) (P := fun i env T' => Mid34 R n B j ja m F i env T')
    (by subst he; exact e_v rfl) (fun T' p => ⟨h.en, h.pr.trans p, cell_pre h.fo p, by
      obtain ⟨A, a1, a2, a3, a4⟩ := h.ah
      exact ⟨A, cell_pre a1 p, a2, a3, a4⟩⟩) (fun i x env T' hx hp => by
    have hi : i < R.1.length := by
      have := (List.getElem?_eq_some_iff.mp hx).1
      rwa [List.length_map] at this
    obtain ⟨r, hr0⟩ : ∃ r, R.1[i]? = some r := ⟨R.1[i], List.getElem?_eq_getElem hi⟩
    have ex : x = pol r := by
      rw [List.getElem?_map, hr0] at hx
      exact (Option.some.inj hx).symm
    subst ex
    have rl := w.l2 r (List.mem_of_getElem? hr0)
    have l1 := w.l1
    have l3 := w.l3
    obtain ⟨t6, t7, t8, t9, he⟩ := hp.en
    subst he
    obtain ⟨A, a1, a2, a3, a4⟩ := hp.ah
    obtain ⟨e, T2, q, hq⟩ := inner34 (cl := cl) (R := R) (B := B) (T := T') (j := j) (ja := ja) (m := m) (at' := i) (L := 6 * i) (r := r) (F := F) (f0 := (List.range i).all (rowOk R n m)) (env := [.pv (rul R), .pv (.tup (R.1.map pol)), .pv (pol R.2), .pv (.lst j), .pv (.int (m : Int)), .pv (.lst ja), .pv (.int (i : Int)), .pv (pol r), t8, t9]) (by omega) (by omega) (by omega) hj hja ⟨⟨t8, t9, rfl⟩, hp.pr, hp.fo, A, a1, a2, by omega, by rw [a4]; simp⟩
    obtain ⟨u8, u9, hu⟩ := hq.en
    obtain ⟨A', b1, b2, b3, b4⟩ := hq.ah
    refine ⟨_, e, T2, rfl, .inl (nx_q q), ⟨_, _, _, _, hu⟩, hq.pr, hq.fo, A', b1, b2, by omega, ?_⟩
    rw [b4, range_all, rl]
    unfold rowOk
    rw [getD_row hr0])
  rw [List.length_map, w.l1] at key
  exact key
def ob34 : MS := sQ (sS 5 (mLst aN)) (sQ (sFo (gT (gC (gV 6) (gC (gV 7) gN))) (iE (aC (mV 1) aN)) mb34) (sQ (sS 3 (m2 opAdd (mV 3) (mIf (tBl (m2 cEq (mV 5) (mLst aN))) (mLst (aC (mV 4) aN)) (mLst aN)))) sN))
def allOk (R : RU) (n m : Nat) : Bool := (List.range n).all (rowOk R n m)
structure Out34 (R : RU) (n : Nat) (B : Sto) (i : Nat) (env : Mi.Env) (T : Sto) : Prop where
  en : ∃ j s4 s5 s6 s7 s8 s9, env = [.pv (rul R), .pv (.tup (R.1.map pol)), .pv (pol R.2), .pv (.lst j), s4, s5, s6, s7, s8, s9] ∧ B.length ≤ j ∧ cellL T j = some (nls ((List.range' 1 i).filter (allOk R n)))
  pr : B <+: T
theorem filter_snoc {p : Nat → Bool} {i : Nat} : (List.range' 1 (i + 1)).filter p = (List.range' 1 i).filter p ++ (if p (i + 1) then [i + 1] else []) := by
  have e : List.range' 1 (i + 1) = List.range' 1 i ++ [1 + i] := by
    rw [List.range'_concat]
    simp
  rw [e, List.filter_append, Nat.add_comm 1 i]
  congr 1
  by_cases h : p (i + 1) = true
  · simp [List.filter_cons, h]
  · simp [List.filter_cons, h]
theorem outer34 {cl : Cl} {R : RU} {n : Nat} {B T : Sto} {env : Mi.Env} (w : WR R n) (h : Out34 R n B 0 env T) :
    ∃ e T2, sFo (gV 4) (iR (aC (mC (.int (1))) (aC (mL bLen (aC (mV 2) aN)) aN))) ob34 cl env T = .nx e T2 ∧ Out34 R n B (n - 1) e T2 := by
  obtain ⟨j0, s4, s5, s6, s7, s8, s9, he, hj0, hc0⟩ := h.en
  have n6 := w.h6
  have key := fo_i (cl := cl) (env := env) (S := T) (g := gV 4) (b := ob34) (mi := iR (aC (mC (.int (1))) (aC (mL bLen (aC (mV 2) aN)) aN))) (xs := nls (List.range' 1 (n - 1))) (P := fun i env T' => Out34 R n B i env T')
    (i_rng2 (a := 1) (b := n) (by omega) (by omega) e_c (by subst he; exact e_L (ea_c (v := pol R.2) (e_v rfl) ea_n) fun T => by rw [bLen_pol, w.l3])) (fun T' p => ⟨⟨j0, s4, s5, s6, s7, s8, s9, he, hj0, cell_pre hc0 p⟩, h.pr.trans p⟩) (fun i x env T' hx hp => by
    have hi : i < n - 1 := by
      have := (List.getElem?_eq_some_iff.mp hx).1
      rwa [nls_len, List.length_range'] at this
    have ex : x = .int ((i + 1 : Nat) : Int) := by
      unfold nls at hx
      rw [List.getElem?_map, List.getElem?_range' hi] at hx
      refine (Option.some.inj hx).symm.trans ?_
      have e2 : 1 + 1 * i = i + 1 := by omega
      show PV.int ((1 + 1 * i : Nat) : Int) = _
      rw [e2]
    subst ex
    obtain ⟨j, t4, t5, t6, t7, t8, t9, he, hj, hc⟩ := hp.en
    subst he
    obtain ⟨T1, ja, q1, p1, hn, c1⟩ := nx_sn (cl := cl) (env := [.pv (rul R), .pv (.tup (R.1.map pol)), .pv (pol R.2), .pv (.lst j), .pv (.int ((i + 1 : Nat) : Int)), t5, t6, t7, t8, t9]) (S := T') (i := 5) (m := mLst aN) (xs := []) (en_lst ea_n)
    have hjl := cell_ltl hc
    obtain ⟨e, T2, q2, hm⟩ := mid34 (cl := cl) (R := R) (n := n) (B := B) (T := T1) (j := j) (ja := ja) (m := i + 1) (F := nls ((List.range' 1 i).filter (allOk R n))) (env := [.pv (rul R), .pv (.tup (R.1.map pol)), .pv (pol R.2), .pv (.lst j), .pv (.int ((i + 1 : Nat) : Int)), .pv (.lst ja), t6, t7, t8, t9]) w (by omega) (Nat.le_trans (len_pre hp.pr) hn) ⟨⟨t6, t7, t8, t9, rfl⟩, hp.pr.trans p1, cell_pre hc p1, [], c1, (fun x hx => by cases hx), Nat.zero_le _, rfl⟩
    obtain ⟨u6, u7, u8, u9, hu⟩ := hm.en
    subst hu
    obtain ⟨A, a1, a2, a3, a4⟩ := hm.ah
    obtain ⟨T3, j3, q3, p3, hn3, c3⟩ := nx_sn (cl := cl) (env := [.pv (rul R), .pv (.tup (R.1.map pol)), .pv (pol R.2), .pv (.lst j), .pv (.int ((i + 1 : Nat) : Int)), .pv (.lst ja), u6, u7, u8, u9]) (S := T2) (i := 3) (m := m2 opAdd (mV 3) (mIf (tBl (m2 cEq (mV 5) (mLst aN))) (mLst (aC (mV 4) aN)) (mLst aN))) (xs := nls ((List.range' 1 i).filter (allOk R n)) ++ (if A.isEmpty then [.int ((i + 1 : Nat) : Int)] else [])) (en_add (el_v rfl hm.fo) (el_if (c := A.isEmpty) (eb_bl (e_2b (el_v rfl a1) (el_lst ea_n) fun U a b ha hb => cEq_nilR ha hb fun x hx => a2 x hx U)) (fun h => by rw [h]; exact el_lst (ea_c (e_v rfl) ea_n)) (fun h => by rw [h]; exact el_lst ea_n)) (by
        have : (List.filter (allOk R n) (List.range' 1 i)).length ≤ i := Nat.le_trans (List.length_filter_le _ _) (by rw [List.length_range']; exact Nat.le_refl _)
        rw [nls_len]
        split <;> simp <;> omega))
    refine ⟨_, _, T3, rfl, .inl ((nx_q q1).trans ((nx_q q2).trans (nx_q q3))), ⟨j3, _, _, _, _, _, _, rfl, Nat.le_trans (len_pre hm.pr) hn3, ?_⟩, hm.pr.trans p3⟩
    rw [c3, filter_snoc]
    have ea : A.isEmpty = allOk R n (i + 1) := a4
    rw [ea, nls_app]
    congr 2
    by_cases hz : allOk R n (i + 1) = true
    · rw [if_pos hz, if_pos hz]; rfl
    · rw [if_neg hz, if_neg hz]; rfl)
  rw [nls_len, List.length_range'] at key
  exact key
end Lk

set_option Elab.async false
set_option linter.all false
set_option maxRecDepth 100000
set_option maxHeartbeats 0
namespace Lk
open PySem PySem.Spec PyProof.Rows L2 Mi
/-- no stage ahead leans on one behind, all behind lean on the ends ahead -/
def PartedP (R : RU) (m : Nat) : Prop := (∀ a r s p, R.1[a]? = some r → r[s]? = some p → a < m → m ≤ s → p.1 = 0) ∧ ∀ a r s p q, R.1[a]? = some r → r[s]? = some p → R.2[s]? = some q → m ≤ a → s < m → p = q
theorem mem_take_iff {α : Type} {l : List α} {m : Nat} {x : α} : x ∈ l.take m ↔ ∃ a, a < m ∧ l[a]? = some x := by
  rw [List.mem_iff_getElem?]
  constructor
  · rintro ⟨a, h⟩
    rw [List.getElem?_take] at h
    split at h
    · exact ⟨a, by assumption, h⟩
    · cases h
  · rintro ⟨a, h1, h2⟩
    exact ⟨a, by rw [List.getElem?_take, if_pos h1]; exact h2⟩
theorem mem_drop_iff {α : Type} {l : List α} {m : Nat} {x : α} : x ∈ l.drop m ↔ ∃ a, m ≤ a ∧ l[a]? = some x := by
  rw [List.mem_iff_getElem?]
  constructor
  · rintro ⟨a, h⟩
    rw [List.getElem?_drop] at h
    exact ⟨m + a, by omega, h⟩
  · rintro ⟨a, h1, h2⟩
    exact ⟨a - m, by rw [List.getElem?_drop, show m + (a - m) = a by omega]; exact h2⟩
theorem parted_iff {R : RU} {n m : Nat} (w : WR R n) : partedB R m = true ↔ PartedP R m := by
  unfold partedB
  rw [Bool.and_eq_true, List.all_eq_true, List.all_eq_true]
  constructor
  · rintro ⟨h1, h2⟩
    refine ⟨fun a r s p ha hp l1 l2 => ?_, fun a r s p q ha hp hq l1 l2 => ?_⟩
    · have z := h1 r (mem_take_iff.mpr ⟨a, l1, ha⟩)
      unfold zerosB at z
      rw [List.all_eq_true] at z
      exact of_decide_eq_true (z p (mem_drop_iff.mpr ⟨s, l2, hp⟩))
    · have z := of_decide_eq_true (h2 r (mem_drop_iff.mpr ⟨a, l1, ha⟩))
      have := congrArg (·[s]?) z
      simp only [List.getElem?_take, if_pos l2, hp, hq] at this
      exact Option.some.inj this
  · rintro ⟨h1, h2⟩
    refine ⟨fun r hr => ?_, fun r hr => decide_eq_true ?_⟩
    · obtain ⟨a, l1, ha⟩ := mem_take_iff.mp hr
      unfold zerosB
      rw [List.all_eq_true]
      intro p hp
      obtain ⟨s, l2, hs⟩ := mem_drop_iff.mp hp
      exact decide_eq_true (h1 a r s p ha hs l1 l2)
    · obtain ⟨a, l1, ha⟩ := mem_drop_iff.mp hr
      have hl := w.l2 r (List.mem_of_getElem? ha)
      have h3 := w.l3
      refine List.ext_getElem? fun s => ?_
      rw [List.getElem?_take, List.getElem?_take]
      by_cases hs : s < m
      · rw [if_pos hs, if_pos hs]
        by_cases hn : s < n
        · obtain ⟨p, hp⟩ : ∃ p, r[s]? = some p := ⟨r[s], List.getElem?_eq_getElem (by omega)⟩
          obtain ⟨q, hq⟩ : ∃ q, R.2[s]? = some q := ⟨R.2[s], List.getElem?_eq_getElem (by omega)⟩
          rw [hp, hq, h2 a r s p q ha hp hq l1 hs]
        · rw [List.getElem?_eq_none (by omega), List.getElem?_eq_none (by omega)]
      · rw [if_neg hs, if_neg hs]
theorem all_iff {R : RU} {n m : Nat} (w : WR R n) : allOk R n m = true ↔ PartedP R m := by
  have l1 := w.l1
  have l3 := w.l3
  unfold allOk
  rw [List.all_eq_true]
  constructor
  · intro h
    have key : ∀ a r s p, R.1[a]? = some r → r[s]? = some p → badP R.2 m a s p = false := fun a r s p ha hp => by
      have hl := w.l2 r (List.mem_of_getElem? ha)
      have ha' := (List.getElem?_eq_some_iff.mp ha).1
      have hs' := (List.getElem?_eq_some_iff.mp hp).1
      have z := h a (List.mem_range.mpr (by omega))
      unfold rowOk at z
      rw [List.all_eq_true] at z
      have z := z s (List.mem_range.mpr (by omega))
      rw [getD_row ha, getD_some hp] at z
      simpa using z
    refine ⟨fun a r s p ha hp h1 h2 => ?_, fun a r s p q ha hp hq h1 h2 => ?_⟩
    · have z := key a r s p ha hp
      unfold badP at z
      rw [decide_eq_true h1, decide_eq_true h2] at z
      by_cases hz : p.1 = 0
      · exact hz
      · rw [decide_eq_false hz] at z; cases z
    · have z := key a r s p ha hp
      unfold badP at z
      rw [decide_eq_true h1, decide_eq_true h2, getD_some hq] at z
      by_cases hz : p = q
      · exact hz
      · rw [decide_eq_false hz, Bool.or_eq_false_iff] at z
        cases z.2
  · rintro ⟨h1, h2⟩ a ha
    have ha' := List.mem_range.mp ha
    unfold rowOk
    rw [List.all_eq_true]
    intro s hs
    have hs' := List.mem_range.mp hs
    obtain ⟨r, hr⟩ : ∃ r, R.1[a]? = some r := ⟨R.1[a], List.getElem?_eq_getElem (by omega)⟩
    have hl := w.l2 r (List.mem_of_getElem? hr)
    obtain ⟨p, hp⟩ : ∃ p, r[s]? = some p := ⟨r[s], List.getElem?_eq_getElem (by omega)⟩
    obtain ⟨q, hq⟩ : ∃ q, R.2[s]? = some q := ⟨R.2[s], List.getElem?_eq_getElem (by omega)⟩
    rw [getD_row hr, getD_some hp]
    unfold badP
    rw [getD_some hq]
    have c1 : (decide (a < m) && (decide (m ≤ s) && !decide (p.1 = 0))) = false := by
      by_cases x : a < m
      · by_cases y : m ≤ s
        · rw [decide_eq_true (h1 a r s p hr hp x y)]; simp
        · rw [decide_eq_false y]; simp
      · rw [decide_eq_false x]; simp
    have c2 : (decide (m ≤ a) && (decide (s < m) && !decide (p = q))) = false := by
      by_cases x : m ≤ a
      · by_cases y : s < m
        · rw [decide_eq_true (h2 a r s p q hr hp hq x y)]; simp
        · rw [decide_eq_false y]; simp
      · rw [decide_eq_false x]; simp
    rw [c1, c2]
    rfl
theorem all_eq {R : RU} {n : Nat} (w : WR R n) : allOk R n = partedB R := by
  funext m
  rw [Bool.eq_iff_iff, all_iff w, parted_iff w]
theorem spec34 (k : Nat) {R : RU} {n : Nat} (S : Sto) (w : WR R n) : (semT tb (k + 1)).c 34 [rul R] S = .ok (.lst S.length) (S ++ [.lst (nls (placesN R n))]) := by
  rw [e34]
  have q1 : sP3 1 2 3 (aC (m2 oIx (mV 0) (mC (.int (0)))) (aC (m2 oIx (mV 0) (mC (.int (1)))) (aC (mLst aN) aN))) ⟨(semT tb k).c, (semT tb k).l, fun _ => .err⟩ [.pv (rul R), .un, .un, .un, .un, .un, .un, .un, .un, .un] S = .nx [.pv (rul R), .pv (.tup (R.1.map pol)), .pv (pol R.2), .pv (.lst S.length), .un, .un, .un, .un, .un, .un] (S ++ [.lst []]) := rfl
  obtain ⟨e, T2, q2, ho⟩ := outer34 (cl := ⟨(semT tb k).c, (semT tb k).l, fun _ => .err⟩) (R := R) (n := n) (B := S) (T := S ++ [.lst []]) (env := [.pv (rul R), .pv (.tup (R.1.map pol)), .pv (pol R.2), .pv (.lst S.length), .un, .un, .un, .un, .un, .un]) w ⟨⟨S.length, _, _, _, _, _, _, rfl, Nat.le_refl _, cell_end⟩, List.prefix_append _ _⟩
  obtain ⟨j, s4, s5, s6, s7, s8, s9, he, hj, hc⟩ := ho.en
  subst he
  have f : bd34 ⟨(semT tb k).c, (semT tb k).l, fun _ => .err⟩ [.pv (rul R), .un, .un, .un, .un, .un, .un, .un, .un, .un] S = .rt (.lst j) T2 := (nx_q q1).trans ((nx_q q2).trans rfl)
  rw [f, all_eq w] at *
  exact fin_preL ho.pr hj hc belows_nls
end Lk

set_option Elab.async false
set_option linter.all false
set_option maxRecDepth 100000
set_option maxHeartbeats 0
namespace Lk
open PySem PySem.Spec PyProof.Rows L2 Mi
theorem oIx_row {T : Sto} {rs : List FL} {a : Nat} {r : FL} (h : rs[a]? = some r) : oIx (.tup (rs.map pol)) (.int (a : Int)) T = some (pol r, T) := by
  show (match L2.atI (rs.map pol) (a : Int) with | some v => some (v, T) | none => none) = _
  rw [atI_nat, List.getElem?_map, h]
  rfl
theorem cut_get {α : Type} {l : List α} {lo hi i : Nat} (h : i < hi - lo) : (cutN lo hi l)[i]? = l[lo + i]? := by
  unfold cutN
  rw [List.getElem?_take, if_pos h, List.getElem?_drop]
theorem cut_len {α : Type} {l : List α} {lo hi : Nat} (h : hi ≤ l.length) : (cutN lo hi l).length = hi - lo := by
  unfold cutN
  rw [List.length_take, List.length_drop]
  omega
/-- [r[spot] for spot in range(lo, hi)] -/
theorem cut_row {r : FL} {lo hi : Nat} (h : hi ≤ r.length) : (nls (List.range' lo (hi - lo))).map (fun x => frp (r.getD (natP x) z01)) = (cutN lo hi r).map frp := by
  unfold nls
  rw [List.map_map]
  refine List.ext_getElem? fun i => ?_
  rw [List.getElem?_map, List.getElem?_map]
  by_cases hi' : i < hi - lo
  · rw [List.getElem?_range' hi', cut_get hi', get_getD (by omega)]
    show some (frp (r.getD ((lo + 1 * i : Nat) : Int).toNat z01)) = _
    rw [Int.toNat_natCast, Nat.one_mul]
    rfl
  · rw [List.getElem?_eq_none (by rw [List.length_range']; omega), List.getElem?_eq_none (by rw [cut_len h]; omega)]
    rfl
theorem bTupE {cl : Cl} {env : Mi.Env} {S : Sto} {m : ME} {xs : List PV} (h : EL m cl env S xs) : E (mL bTup (aC m aN)) cl env S (.tup xs) := e_Ll h fun T i c => bTup_c c
def rb35 : MS := sQ (sX (mMt 1 mApp (mV 3) (aC (mL bTup (aC (mLc [5, 6] (gV 6) tYe (m2 oIx (m2 oIx (m2 oIx (mV 0) (mC (.int (0)))) (mV 4)) (mV 6)) (iR (aC (mV 1) (aC (mV 2) aN)))) aN)) aN))) sN
structure P35 (R : RU) (lo hi : Nat) (B : Sto) (i : Nat) (env : Mi.Env) (T : Sto) : Prop where
  en : ∃ j s4, env = [.pv (rul R), .pv (.int (lo : Int)), .pv (.int (hi : Int)), .pv (.lst j), s4, .un, .un] ∧ B.length ≤ j ∧ cellL T j = some (((R.1.drop lo).take i).map fun r => pol (cutN lo hi r))
  pr : B <+: T
theorem spec35 (k : Nat) {R : RU} {n : Nat} (S : Sto) (w : WR R n) {lo hi : Nat} (l1 : lo ≤ hi) (l2 : hi ≤ n) : (semT tb (k + 1)).c 35 [rul R, .int (lo : Int), .int (hi : Int)] S = .ok (rul (partN R lo hi)) S := by
  rw [e35]
  have n6 := w.h6
  have ln := w.l1
  have l3 := w.l3
  obtain ⟨T1, j, q1, p1, hn, c1⟩ := nx_sn (cl := ⟨(semT tb k).c, (semT tb k).l, fun _ => .err⟩) (env := [.pv (rul R), .pv (.int (lo : Int)), .pv (.int (hi : Int)), .un, .un, .un, .un]) (S := S) (i := 3) (m := mLst aN) (xs := []) (en_lst ea_n)
  obtain ⟨e, T2, q2, h2⟩ := fo_i (cl := ⟨(semT tb k).c, (semT tb k).l, fun _ => .err⟩) (env := [.pv (rul R), .pv (.int (lo : Int)), .pv (.int (hi : Int)), .pv (.lst j), .un, .un, .un]) (S := T1) (g := gV 4) (b := rb35) (mi := iR (aC (mV 1) (aC (mV 2) aN))) (xs := nls (List.range' lo (hi - lo))) (P := fun i env T => P35 R lo hi S i env T)
    (i_rng2 (by omega) (by omega) (e_v rfl) (e_v rfl)) (fun T p => ⟨⟨j, .un, rfl, hn, cell_pre c1 p⟩, p1.trans p⟩) (fun i x env T hx hp => by
    have hi' : i < hi - lo := by
      have := (List.getElem?_eq_some_iff.mp hx).1
      rwa [nls_len, List.length_range'] at this
    have ex : x = .int ((lo + i : Nat) : Int) := by
      unfold nls at hx
      rw [List.getElem?_map, List.getElem?_range' hi'] at hx
      refine (Option.some.inj hx).symm.trans ?_
      have e2 : lo + 1 * i = lo + i := by omega
      show PV.int ((lo + 1 * i : Nat) : Int) = _
      rw [e2]
    subst ex
    obtain ⟨j, s4, he, hj, hc⟩ := hp.en
    subst he
    obtain ⟨r, hr⟩ : ∃ r, R.1[lo + i]? = some r := ⟨R.1[lo + i], List.getElem?_eq_getElem (by omega)⟩
    have rl := w.l2 r (List.mem_of_getElem? hr)
    obtain ⟨T3, q3, p3⟩ := x_app (cl := ⟨(semT tb k).c, (semT tb k).l, fun _ => .err⟩) (env := [.pv (rul R), .pv (.int (lo : Int)), .pv (.int (hi : Int)), .pv (.lst j), .pv (.int ((lo + i : Nat) : Int)), .un, .un]) (i := 3) (m := mL bTup (aC (mLc [5, 6] (gV 6) tYe (m2 oIx (m2 oIx (m2 oIx (mV 0) (mC (.int (0)))) (mV 4)) (mV 6)) (iR (aC (mV 1) (aC (mV 2) aN)))) aN)) (v := pol (cutN lo hi r)) rfl hc ((bTupE (el_lcY (f := fun x => frp (r.getD (natP x) z01)) (xs := nls (List.range' lo (hi - lo))) (i_rng2 (by omega) (by omega) (e_v rfl) (e_v rfl)) (fun y hy => by
      obtain ⟨s, hs, rfl⟩ := List.mem_map.mp hy
      have hs' := List.mem_range'_1.mp hs
      refine ⟨_, rfl, e_2 (v := pol r) (w := .int (s : Int)) (e_2 (v := .tup (R.1.map pol)) (w := .int ((lo + i : Nat) : Int)) (e_2 (e_v rfl) e_c fun T => rfl) (e_v rfl) fun T => oIx_row hr) (e_v rfl) fun T => ?_⟩
      exact oIx_tup (get_getD (by omega))) (by rw [nls_len, List.length_range']; omega))).cast (by rw [cut_row (by omega)]; rfl)) (by rw [List.length_map, List.length_take, List.length_drop]; omega) below_pol
    refine ⟨_, _, _, rfl, .inl (nx_q q3), ⟨j, _, rfl, hj, ?_⟩, pre_set (hp.pr.trans p3) hj⟩
    rw [cell_set (cell_pre hc p3)]
    have et : (R.1.drop lo).take (i + 1) = (R.1.drop lo).take i ++ [r] := by
      rw [List.take_succ, List.getElem?_drop, hr]
      rfl
    rw [et, List.map_append]
    rfl)
  obtain ⟨j', s4, he, hj, hc⟩ := h2.en
  subst he
  rw [nls_len, List.length_range'] at hc
  have ro : RO (sQ (sR (mTup (aC (mL bTup (aC (mV 3) aN)) (aC (mL bTup (aC (mLc [5, 6] (gV 6) tYe (m2 oIx (m2 oIx (mV 0) (mC (.int (1)))) (mV 6)) (iR (aC (mV 1) (aC (mV 2) aN)))) aN)) aN)))) sN) ⟨(semT tb k).c, (semT tb k).l, fun _ => .err⟩ [.pv (rul R), .pv (.int (lo : Int)), .pv (.int (hi : Int)), .pv (.lst j'), s4, .un, .un] T2 (rul (partN R lo hi)) := by
    refine ro_r (e_tup (ea_c (v := .tup ((partN R lo hi).1.map pol)) ((bTupE (el_v rfl hc)).cast ?_) (ea_c (v := pol (partN R lo hi).2) ((bTupE (el_lcY (f := fun x => frp (R.2.getD (natP x) z01)) (xs := nls (List.range' lo (hi - lo))) (i_rng2 (by omega) (by omega) (e_v rfl) (e_v rfl)) (fun y hy => ?_) (by rw [nls_len, List.length_range']; omega))).cast ?_) ea_n)))
    · show PV.tup _ = PV.tup (((cutN lo hi R.1).map (cutN lo hi)).map pol)
      rw [List.map_map]
      rfl
    · obtain ⟨s, hs, rfl⟩ := List.mem_map.mp hy
      have hs' := List.mem_range'_1.mp hs
      exact ⟨_, rfl, e_2 (v := pol R.2) (w := .int (s : Int)) (e_2 (e_v rfl) e_c fun T => rfl) (e_v rfl) fun T => oIx_tup (get_getD (by omega))⟩
    · rw [cut_row (by omega)]
      rfl
  obtain ⟨U, h3, p3⟩ := ro
  have f : bd35 ⟨(semT tb k).c, (semT tb k).l, fun _ => .err⟩ [.pv (rul R), .pv (.int (lo : Int)), .pv (.int (hi : Int)), .un, .un, .un, .un] S = _ := (nx_q q1).trans (nx_q q2)
  rw [f, h3]
  exact fin_pre (h2.pr.trans p3) below_rul
end Lk

set_option Elab.async false
set_option linter.all false
set_option maxRecDepth 100000
set_option maxHeartbeats 0
namespace Lk
open PySem PySem.Spec PyProof.Rows L2 Mi
theorem parted_0 {R : RU} : PartedP R 0 := ⟨fun _ _ _ _ _ _ h _ => absurd h (Nat.not_lt_zero _), fun _ _ _ _ _ _ _ _ _ h => absurd h (Nat.not_lt_zero _)⟩
theorem parted_n {R : RU} {n : Nat} (w : WR R n) : PartedP R n := by
  refine ⟨fun a r s p ha hp _ h => ?_, fun a r s p q ha hp hq h _ => ?_⟩
  · have := w.l2 r (List.mem_of_getElem? ha)
    have := (List.getElem?_eq_some_iff.mp hp).1
    omega
  · have := (List.getElem?_eq_some_iff.mp ha).1
    have := w.l1
    omega
theorem ends_parted {R : RU} {n : Nat} (w : WR R n) : ∀ e ∈ endsN R n, PartedP R e := fun e he => by
  unfold endsN at he
  rcases List.mem_append.mp he with h | h
  · rcases List.mem_append.mp h with h | h
    · rw [List.mem_singleton.mp h]; exact parted_0
    · exact (parted_iff w).mp (places_in.mp h).2.2
  · rw [List.mem_singleton.mp h]; exact parted_n w
theorem part_get {R : RU} {n lo hi a : Nat} {r : FL} (w : WR R n) (h2 : hi ≤ n) (h : (partN R lo hi).1[a]? = some r) : a < hi - lo ∧ ∃ r0, R.1[lo + a]? = some r0 ∧ r = cutN lo hi r0 := by
  have h : ((cutN lo hi R.1).map (cutN lo hi))[a]? = some r := h
  rw [List.getElem?_map] at h
  have l1 := w.l1
  by_cases ha : a < hi - lo
  · rw [cut_get ha] at h
    cases e : R.1[lo + a]? with
    | none => rw [e] at h; cases h
    | some r0 =>
      rw [e] at h
      exact ⟨ha, r0, rfl, (Option.some.inj h).symm⟩
  · rw [List.getElem?_eq_none (by rw [cut_len (by omega)]; omega)] at h
    cases h
theorem part_wr {R : RU} {n lo hi : Nat} (w : WR R n) (h1 : lo < hi) (h2 : hi ≤ n) : WR (partN R lo hi) (hi - lo) := by
  have l1 := w.l1
  have l3 := w.l3
  have n6 := w.h6
  refine ⟨?_, fun r hr => ?_, ?_, by omega, by omega, fun r hr p hp => ?_, fun p hp => ?_⟩
  · show ((cutN lo hi R.1).map (cutN lo hi)).length = _
    rw [List.length_map, cut_len (by omega)]
  · obtain ⟨r0, hr0, rfl⟩ := List.mem_map.mp hr
    have := w.l2 r0 (List.mem_of_mem_drop (List.mem_of_mem_take hr0))
    exact cut_len (by omega)
  · exact cut_len (by omega)
  · obtain ⟨r0, hr0, rfl⟩ := List.mem_map.mp hr
    exact w.f r0 (List.mem_of_mem_drop (List.mem_of_mem_take hr0)) p (List.mem_of_mem_drop (List.mem_of_mem_take hp))
  · exact w.g p (List.mem_of_mem_drop (List.mem_of_mem_take hp))
theorem cut_get' {α : Type} {l : List α} {lo hi i : Nat} {x : α} (h1 : lo ≤ i) (h2 : i < hi) (h : l[i]? = some x) : (cutN lo hi l)[i - lo]? = some x := by
  rw [cut_get (by omega), show lo + (i - lo) = i by omega]
  exact h
theorem part_get' {R : RU} {lo hi a : Nat} {r : FL} (h1 : lo ≤ a) (h2 : a < hi) (h : R.1[a]? = some r) : (partN R lo hi).1[a - lo]? = some (cutN lo hi r) := by
  show ((cutN lo hi R.1).map (cutN lo hi))[a - lo]? = _
  rw [List.getElem?_map, cut_get' h1 h2 h]
  rfl
/-- a place within a part is a place of the whole -/
theorem part_parted {R : RU} {n lo hi q : Nat} (w : WR R n) (pl : PartedP R lo) (ph : PartedP R hi) (h2 : hi ≤ n) (hq : lo + q < hi) (h : PartedP (partN R lo hi) q) : PartedP R (lo + q) := by
  obtain ⟨h1, h3⟩ := h
  refine ⟨fun a r s p ha hp x y => ?_, fun a r s p e ha hp he x y => ?_⟩
  · by_cases c1 : a < lo
    · exact pl.1 a r s p ha hp c1 (by omega)
    · by_cases c2 : s < hi
      · exact h1 (a - lo) _ (s - lo) p (part_get' (by omega) (by omega) ha) (cut_get' (by omega) c2 hp) (by omega) (by omega)
      · exact ph.1 a r s p ha hp (by omega) (by omega)
  · by_cases c1 : s < lo
    · exact pl.2 a r s p e ha hp he (by omega) c1
    · by_cases c2 : a < hi
      · exact h3 (a - lo) _ (s - lo) p e (part_get' (by omega) c2 ha) (cut_get' (by omega) (by omega) hp) (cut_get' (by omega) (by omega) he) (by omega) (by omega)
      · exact ph.2 a r s p e ha hp he (by omega) (by omega)
theorem part_none {R : RU} {n lo hi : Nat} (w : WR R n) (h : (lo, hi) ∈ (endsN R n).zip (endsN R n).tail) : placesN (partN R lo hi) (hi - lo) = [] := by
  obtain ⟨q1, q2, q3, q4⟩ := zip_tail (ends_up w.h1) (lo, hi) h
  have hn := ends_le _ q3
  have wp := part_wr w q1 hn
  refine List.eq_nil_iff_forall_not_mem.mpr fun q hq => ?_
  obtain ⟨a1, a2, a3⟩ := places_in.mp hq
  have pp := part_parted w (ends_parted w _ q2) (ends_parted w _ q3) hn (by dsimp only at *; omega) ((parted_iff wp).mp a3)
  have : lo + q ∈ endsN R n := by
    unfold endsN
    exact List.mem_append.mpr (.inl (List.mem_append.mpr (.inr (places_in.mpr ⟨by omega, by dsimp only at *; omega, (parted_iff w).mpr pp⟩))))
  have := q4 _ this
  dsimp only at *
  omega
theorem cut_0 {α : Type} {l : List α} {m : Nat} : cutN 0 m l = l.take m := by unfold cutN; rw [List.drop_zero, Nat.sub_zero]
theorem cut_n {α : Type} {l : List α} {m n : Nat} (h : l.length = n) : cutN m n l = l.drop m := by
  unfold cutN
  exact List.take_of_length_le (by rw [List.length_drop]; omega)
theorem red_zero {p : Int × Int} (h : Red p) (h0 : p.1 = 0) : p = z01 := by
  obtain ⟨a, b⟩ := p
  have h0 : a = 0 := h0
  subst h0
  have c := h.cop
  have q := h.pos
  have c : Nat.gcd 0 b.natAbs = 1 := c
  have q : 0 < b := q
  rw [Nat.gcd_zero_left] at c
  have : b = 1 := by omega
  rw [this]
  rfl
/-- parted and joined again -/
theorem join_parts {R : RU} {n m : Nat} (w : WR R n) (h : PartedP R m) (hm : m ≤ n) : joinR (partN R 0 m) (partN R m n) = R := by
  have hB := (parted_iff w).mpr h
  unfold partedB at hB
  rw [Bool.and_eq_true, List.all_eq_true, List.all_eq_true] at hB
  have l1 := w.l1
  have l3 := w.l3
  unfold joinR partN
  refine Prod.ext ?_ ?_
  · show ((cutN 0 m R.1).map (cutN 0 m)).map (fun r => r ++ List.replicate (cutN m n R.2).length z01) ++ ((cutN m n R.1).map (cutN m n)).map (fun r => cutN 0 m R.2 ++ r) = R.1
    rw [cut_0, cut_n l1, cut_0, cut_n l3, List.length_drop, List.map_map, List.map_map]
    have e1 : (R.1.take m).map ((fun r => r ++ List.replicate (R.2.length - m) z01) ∘ cutN 0 m) = R.1.take m := by
      refine (List.map_congr_left (g := id) fun r hr => ?_).trans (List.map_id _)
      have hl := w.l2 r (List.mem_of_mem_take hr)
      have z := hB.1 r hr
      unfold zerosB at z
      rw [List.all_eq_true] at z
      show cutN 0 m r ++ List.replicate (R.2.length - m) z01 = r
      rw [cut_0]
      have : r.drop m = List.replicate (R.2.length - m) z01 := List.eq_replicate_iff.mpr ⟨by rw [List.length_drop]; omega, fun p hp => red_zero (w.f r (List.mem_of_mem_take hr) p (List.mem_of_mem_drop hp)).toRed (of_decide_eq_true (z p hp))⟩
      rw [← this, List.take_append_drop]
    have e2 : (R.1.drop m).map ((fun r => R.2.take m ++ r) ∘ cutN m n) = R.1.drop m := by
      refine (List.map_congr_left (g := id) fun r hr => ?_).trans (List.map_id _)
      have hl := w.l2 r (List.mem_of_mem_drop hr)
      have z := of_decide_eq_true (hB.2 r hr)
      show R.2.take m ++ cutN m n r = r
      rw [cut_n hl, ← z, List.take_append_drop]
    rw [e1, e2, List.take_append_drop]
  · show cutN 0 m R.2 ++ cutN m n R.2 = R.2
    rw [cut_0, cut_n l3, List.take_append_drop]
end Lk

set_option Elab.async false
set_option linter.all false
set_option maxRecDepth 100000
set_option maxHeartbeats 0
namespace Lk
open PySem PySem.Spec PyProof.Rows L2 Mi
theorem likeF (k : Nat) (p : Int × Int) (S : Sto) : (semT tb (k + 3)).c 29 [frp p, frp p] S = .ok (.bl true) S := by
  refine l29t (k + 1) [.int p.1, .int p.2] S fun x hx S => ?_
  rcases List.mem_cons.mp hx with e | hx
  · rw [e]; exact l29i k p.1 S
  · rcases List.mem_cons.mp hx with e | hx
    · rw [e]; exact l29i k p.2 S
    · cases hx
theorem likeP (k : Nat) (ps : FL) (S : Sto) : (semT tb (k + 4)).c 29 [pol ps, pol ps] S = .ok (.bl true) S := by
  refine l29t (k + 2) (ps.map frp) S fun x hx S => ?_
  obtain ⟨p, _, rfl⟩ := List.mem_map.mp hx
  exact likeF k p S
theorem likeR (k : Nat) (rs : List FL) (S : Sto) : (semT tb (k + 5)).c 29 [.tup (rs.map pol), .tup (rs.map pol)] S = .ok (.bl true) S := by
  refine l29t (k + 3) (rs.map pol) S fun x hx S => ?_
  obtain ⟨p, _, rfl⟩ := List.mem_map.mp hx
  exact likeP k p S
theorem likeU (k : Nat) (R : RU) (S : Sto) : (semT tb (k + 6)).c 29 [rul R, rul R] S = .ok (.bl true) S := by
  refine l29t (k + 4) [.tup (R.1.map pol), pol R.2] S fun x hx S => ?_
  rcases List.mem_cons.mp hx with e | hx
  · rw [e]; exact likeR k R.1 S
  · rcases List.mem_cons.mp hx with e | hx
    · rw [e]; exact likeP (k + 1) R.2 S
    · cases hx
theorem likeUs (k : Nat) (rs : List RU) (S : Sto) : (semT tb (k + 7)).c 29 [.tup (rs.map rul), .tup (rs.map rul)] S = .ok (.bl true) S := by
  refine l29t (k + 5) (rs.map rul) S fun x hx S => ?_
  obtain ⟨p, _, rfl⟩ := List.mem_map.mp hx
  exact likeU k p S
theorem likeN (k : Nat) (l : List Nat) (S : Sto) : (semT tb (k + 3)).c 29 [.tup (nls l), .tup (nls l)] S = .ok (.bl true) S := by
  refine l29t (k + 1) (nls l) S fun x hx S => ?_
  obtain ⟨p, _, rfl⟩ := List.mem_map.mp hx
  exact l29i k _ S
/-! ### the words of an error -/
theorem el30 (k : Nat) (clo : Call → Sto → Res PV) (S : Sto) : (semT tb (k + 2)).l 30 clo S = fin S.length (outR (bd30 ⟨(semT tb (k + 1)).c, (semT tb (k + 1)).l, clo (semT tb k).c⟩ [.cl, .un, .un, .un, .un, .un] S)) := by kernel_rfl
def srl : List Nat := [114, 117, 108, 101]
def snu : List Nat := [110, 117, 109, 98, 101, 114]
def su30 : MS := sQ (sS 2 (mLst (aC (mTup (aC (mC (.str srl)) (aC (mIsE G0.sub 1 45) aN))) (aC (mTup (aC (mC (.str snu)) (aC (mIsE G0.sub 1 43) aN))) aN))))
    (sQ (sR (mMt 0 mJoin (mC (.str [32])) (aC (mLc [3, 4, 5] (gT (gC (gV 4) (gC (gV 5) gN))) (tTru (mV 5)) (mV 4) (iAL (mV 2))) aN)))
    sN)
def ac30 : MS := sQ (sX (mAct 0)) sN
def nn30 : MS := sQ (sR (mC (.str []))) sN
theorem bd30_eq : bd30 = sQ (sTr G0.sub 42 1 ac30 su30) nn30 := rfl
theorem nthC {S : Sto} {xs : List PV} {i : Nat} : nthS (.lv S.length) i (S ++ [.lst xs]) = some xs[i]? := by
  show (cellL (S ++ [.lst xs]) S.length).map _ = _
  rw [cell_end]
  rfl
theorem lc30 {cl : Cl} {S : Sto} {a b c d e f : Slot} : lcN cl (gT (gC (gV 4) (gC (gV 5) gN))) (tTru (mV 5)) (mV 4) (.lv S.length) [a, b, c, d, e, f] 3 0 (S ++ [.lst [.tup [.str srl, .bl false], .tup [.str snu, .bl true]]]) = .ok [.str snu] (S ++ [.lst [.tup [.str srl, .bl false], .tup [.str snu, .bl true]]]) := by
  simp only [lcN, nthC]
  simp only [lcN, nthC, gT, gC, gV, gN, tTru, mV, bnd, bndN, truP, List.getElem?_cons_zero, List.getElem?_cons_succ, List.set_cons_zero, List.set_cons_succ, Nat.zero_add, Nat.reduceAdd, List.getElem?_nil]
theorem lerr43 (k : Nat) {clo : Call → Sto → Res PV} {S : Sto} (h : clo (semT tb k).c S = .exc 43 none S) : (semT tb (k + 2)).l 30 clo S = .ok (.str snu) S := by
  rw [el30, bd30_eq]
  have a1 : ac30 ⟨(semT tb (k + 1)).c, (semT tb (k + 1)).l, clo (semT tb k).c⟩ [.cl, .un, .un, .un, .un, .un] S = .exc 43 none [.cl, .un, .un, .un, .un, .un] S := by
    unfold ac30
    simp only [sQ, sX, mAct, bndS, List.getElem?_cons_zero, h]
  have h0 : G0.sub 43 42 = some true := rfl
  have h1 : G0.sub 43 45 = some false := rfl
  have h2 : G0.sub 43 43 = some true := rfl
  have i1 : ∀ cl T, iAL (mV 2) cl [.cl, .ex 43 none, .pv (.lst S.length), .un, .un, .un] T = .ok (.lv S.length) T := fun cl T => rfl
  have ln : lenS (.lv S.length) (S ++ [.lst [.tup [.str srl, .bl false], .tup [.str snu, .bl true]]]) = 2 := by
    show (match cellL (S ++ [.lst [.tup [.str srl, .bl false], .tup [.str snu, .bl true]]]) S.length with | some xs => xs.length | none => 0) = _
    rw [cell_end]
    rfl
  have lm : ∀ cl, mLc [3, 4, 5] (gT (gC (gV 4) (gC (gV 5) gN))) (tTru (mV 5)) (mV 4) (iAL (mV 2)) cl [.cl, .ex 43 none, .pv (.lst S.length), .un, .un, .un] (S ++ [.lst [.tup [.str srl, .bl false], .tup [.str snu, .bl true]]]) = .ok (.lst (S ++ [Cell.lst [.tup [.str srl, .bl false], .tup [.str snu, .bl true]]]).length) (S ++ [.lst [.tup [.str srl, .bl false], .tup [.str snu, .bl true]]] ++ [.lst [.str snu]]) := fun cl => by
    unfold mLc bnd
    rw [i1]
    dsimp only
    rw [ln]
    show bndN (lcN cl (gT (gC (gV 4) (gC (gV 5) gN))) (tTru (mV 5)) (mV 4) (.lv S.length) [.cl, .ex 43 none, .pv (.lst S.length), .un, .un, .un] 3 0 _) _ = _
    rw [lc30]
    rfl
  have hj : mJoin [.str [32], .lst (S ++ [Cell.lst [.tup [.str srl, .bl false], .tup [.str snu, .bl true]]]).length] (S ++ [.lst [.tup [.str srl, .bl false], .tup [.str snu, .bl true]]] ++ [.lst [.str snu]]) = some (.str snu, S ++ [.lst [.tup [.str srl, .bl false], .tup [.str snu, .bl true]]] ++ [.lst [.str snu]]) := by
    simp only [mJoin, seqD, cell_end, Option.map_some, strsP]
    rfl
  have a2 : ∀ cl, su30 cl [.cl, .ex 43 none, .un, .un, .un, .un] S = .rt (.str snu) (S ++ [.lst [.tup [.str srl, .bl false], .tup [.str snu, .bl true]]] ++ [.lst [.str snu]]) := fun cl => by
    unfold su30
    simp only [sQ, sS, sR, mLst, mTup, mC, mIsE, aC, aN, bnd, bndS, List.getElem?_cons_zero, List.getElem?_cons_succ, List.set_cons_zero, List.set_cons_succ, h1, h2, mMt, tagP, lm, hj, ofO]
  have a3 : sTr G0.sub 42 1 ac30 su30 ⟨(semT tb (k + 1)).c, (semT tb (k + 1)).l, clo (semT tb k).c⟩ [.cl, .un, .un, .un, .un, .un] S = .rt (.str snu) (S ++ [.lst [.tup [.str srl, .bl false], .tup [.str snu, .bl true]]] ++ [.lst [.str snu]]) := by
    unfold sTr
    rw [a1]
    dsimp only
    rw [h0]
    dsimp only
    show (match su30 _ [.cl, .ex 43 none, .un, .un, .un, .un] S with | .nx e1 S1 => _ | .ct e1 S1 => _ | .bk e1 S1 => _ | .exc _ _ _ _ => _ | r => r) = _
    rw [a2]
  rw [q_rt a3]
  exact fin_pre ((List.prefix_append S [Cell.lst [.tup [.str srl, .bl false], .tup [.str snu, .bl true]]]).trans (List.prefix_append _ _)) rfl
theorem lam43 {k : Nat} {m : ME} {env : Mi.Env} {S : Sto} {a : Sto → Res PV} (h : m (bareC (semT tb k).c) (plainE env) S = .exc 43 none S) : mLam 30 m ⟨(semT tb (k + 2)).c, (semT tb (k + 2)).l, a⟩ env S = .ok (.str snu) S := by
  unfold mLam
  dsimp only
  rw [lerr43 k h]
theorem cNi_nls {T : Sto} {j m : Nat} {l : List Nat} (h : cellL T j = some (nls l)) : cNi (.int (m : Int)) (.lst j) T = some (.bl (!decide (m ∈ l)), T) := by
  have h1 : okD T 62 (.int (m : Int)) = true := rfl
  have h2 : (nls l).all (okD T 62) = true := by
    rw [List.all_eq_true]
    intro x hx
    obtain ⟨a, _, rfl⟩ := List.mem_map.mp hx
    rfl
  have h3 : ((nls l).any fun y => eqD T 62 y (.int (m : Int))) = decide (m ∈ l) := by
    unfold nls
    rw [List.any_map, Bool.eq_iff_iff, List.any_eq_true, decide_eq_true_eq]
    constructor
    · rintro ⟨a, ha, e⟩
      have e : decide ((a : Int) = (m : Int)) = true := e
      have := of_decide_eq_true e
      have : a = m := by omega
      rw [← this]; exact ha
    · intro h
      exact ⟨m, h, decide_eq_true rfl⟩
  simp only [cNi, seqD, h, Option.map_some, h1, h2, h3, Bool.and_self, if_true]
end Lk

set_option Elab.async false
set_option linter.all false
set_option maxRecDepth 100000
set_option maxHeartbeats 0
namespace Lk
open PySem PySem.Spec PyProof.Rows L2 Mi
def lb36 : MS := (sQ (sI (tBl (m2 cNi (mV 7) (mV 1))) (sQ (sI (tBl (m2 cNe (mLam 30 (mCall 13 (aC (mV 0) (aC (mV 7) aN)))) (mC (.str [110, 117, 109, 98, 101, 114])))) (sQ (sR (mC (.bl false)))
    sN) sN)
    (sQ sCt
    sN)) sN)
    (sQ (sP2 3 4 (aC (mCall 35 (aC (mV 0) (aC (mC (.int (0))) (aC (mV 7) aN)))) (aC (mCall 35 (aC (mV 0) (aC (mV 7) (aC (mV 2) aN)))) aN)))
    (sQ (sI (tNo (tTru (mCall 29 (aC (mCall 13 (aC (mV 0) (aC (mV 7) aN))) (aC (mTup (aC (mV 3) (aC (mV 4) aN))) aN))))) (sQ (sR (mC (.bl false)))
    sN) sN)
    (sQ (sI (tNo (tTru (mCall 29 (aC (mCall 22 (aC (mV 3) (aC (mV 4) (aC (mTup (aC (mC (.int (1))) (aC (mC (.int (1))) aN))) (aC (mTup (aC (mC (.int (1))) (aC (mC (.int (1))) aN))) aN))))) (aC (mV 0) aN))))) (sQ (sR (mC (.bl false)))
    sN) sN)
    sN))))
theorem pl_iff {R : RU} {n m : Nat} : okPl R n m = decide (m ∈ placesN R n) := by
  rw [Bool.eq_iff_iff, decide_eq_true_eq, places_in]
  unfold okPl
  simp only [Bool.and_eq_true, decide_eq_true_eq]
  constructor
  · rintro ⟨⟨a, b⟩, c⟩; exact ⟨a, by omega, c⟩
  · rintro ⟨a, b, c⟩; exact ⟨⟨a, by omega⟩, c⟩
structure P36 (R : RU) (n j : Nat) (B : Sto) (env : Mi.Env) (T : Sto) : Prop where
  en : ∃ s3 s4 s7, env = [.pv (rul R), .pv (.lst j), .pv (.int (n : Int)), s3, s4, .un, .un, s7, .un, .un, .un, .un] ∧ (∀ v, plainE [.pv (rul R), .pv (.lst j), .pv (.int (n : Int)), s3, s4, .un, .un, .pv v, .un, .un, .un, .un] = [.pv (rul R), .pv (.lst j), .pv (.int (n : Int)), s3, s4, .un, .un, .pv v, .un, .un, .un, .un])
  pr : B <+: T
theorem turn36 (k : Nat) {R : RU} {n j m : Nat} {B T : Sto} {s3 s4 : Slot} (w : WR R n) (hm : m ≤ n) (hc : cellL T j = some (nls (placesN R n))) (hp : ∀ v, plainE [.pv (rul R), .pv (.lst j), .pv (.int (n : Int)), s3, s4, .un, .un, .pv v, .un, .un, .un, .un] = [.pv (rul R), .pv (.lst j), .pv (.int (n : Int)), s3, s4, .un, .un, .pv v, .un, .un, .un, .un]) (pr : B <+: T) :
    ∃ e T2, (lb36 ⟨(semT tb (k + 7)).c, (semT tb (k + 7)).l, fun _ => .err⟩ [.pv (rul R), .pv (.lst j), .pv (.int (n : Int)), s3, s4, .un, .un, .pv (.int (m : Int)), .un, .un, .un, .un] T = .nx e T2 ∨ lb36 ⟨(semT tb (k + 7)).c, (semT tb (k + 7)).l, fun _ => .err⟩ [.pv (rul R), .pv (.lst j), .pv (.int (n : Int)), s3, s4, .un, .un, .pv (.int (m : Int)), .un, .un, .un, .un] T = .ct e T2) ∧ P36 R n j B e T2 := by
  have cd : EB (tBl (m2 cNi (mV 7) (mV 1))) ⟨(semT tb (k + 7)).c, (semT tb (k + 7)).l, fun _ => .err⟩ [.pv (rul R), .pv (.lst j), .pv (.int (n : Int)), s3, s4, .un, .un, .pv (.int (m : Int)), .un, .un, .un, .un] T (!decide (m ∈ placesN R n)) :=
    eb_bl (e_2r (e_v rfl) (el_v rfl hc) fun U i c => cNi_nls c)
  by_cases hin : m ∈ placesN R n
  · rw [decide_eq_true hin] at cd
    have ok : okPl R n m = true := by rw [pl_iff]; exact decide_eq_true hin
    obtain ⟨u1, u2, u3⟩ := places_in.mp hin
    obtain ⟨T1, q1, p1⟩ := if_f (b := sN) (a := (sQ (sI (tBl (m2 cNe (mLam 30 (mCall 13 (aC (mV 0) (aC (mV 7) aN)))) (mC (.str [110, 117, 109, 98, 101, 114])))) (sQ (sR (mC (.bl false))) sN) sN) (sQ sCt sN))) cd
    have a2 : EA (aC (mCall 35 (aC (mV 0) (aC (mC (.int (0))) (aC (mV 7) aN)))) (aC (mCall 35 (aC (mV 0) (aC (mV 7) (aC (mV 2) aN)))) aN)) ⟨(semT tb (k + 7)).c, (semT tb (k + 7)).l, fun _ => .err⟩ [.pv (rul R), .pv (.lst j), .pv (.int (n : Int)), s3, s4, .un, .un, .pv (.int (m : Int)), .un, .un, .un, .un] T1 [rul (partN R 0 m), rul (partN R m n)] :=
      ea_c (e_call (ea_c (e_v rfl) (ea_c e_c (ea_c (e_v rfl) ea_n))) fun U _ => spec35 (k + 6) U w (lo := 0) (Nat.zero_le m) hm) (ea_c (e_call (ea_c (e_v rfl) (ea_c (e_v rfl) (ea_c (e_v rfl) ea_n))) fun U _ => spec35 (k + 6) U w hm (Nat.le_refl n)) ea_n)
    obtain ⟨T2, h2, p2⟩ := a2.at
    have q2 : sP2 3 4 (aC (mCall 35 (aC (mV 0) (aC (mC (.int (0))) (aC (mV 7) aN)))) (aC (mCall 35 (aC (mV 0) (aC (mV 7) (aC (mV 2) aN)))) aN)) ⟨(semT tb (k + 7)).c, (semT tb (k + 7)).l, fun _ => .err⟩ [.pv (rul R), .pv (.lst j), .pv (.int (n : Int)), s3, s4, .un, .un, .pv (.int (m : Int)), .un, .un, .un, .un] T1 = .nx [.pv (rul R), .pv (.lst j), .pv (.int (n : Int)), .pv (rul (partN R 0 m)), .pv (rul (partN R m n)), .un, .un, .pv (.int (m : Int)), .un, .un, .un, .un] T2 := by
      simp only [sP2, bndS, h2]
      rfl
    have w0 := part_wr w (lo := 0) (hi := m) u1 hm
    have w1 := part_wr w (lo := m) (hi := n) u2 (Nat.le_refl n)
    have jp := join_parts w ((parted_iff w).mp u3) hm
    have t3 : EB (tNo (tTru (mCall 29 (aC (mCall 13 (aC (mV 0) (aC (mV 7) aN))) (aC (mTup (aC (mV 3) (aC (mV 4) aN))) aN))))) ⟨(semT tb (k + 7)).c, (semT tb (k + 7)).l, fun _ => .err⟩ [.pv (rul R), .pv (.lst j), .pv (.int (n : Int)), .pv (rul (partN R 0 m)), .pv (rul (partN R m n)), .un, .un, .pv (.int (m : Int)), .un, .un, .un, .un] T2 false :=
      eb_no (b := true) (eb_tru (e_call (ea_c (v := .tup [rul (partN R 0 m), rul (partN R m n)]) (e_call (ea_c (e_v rfl) (ea_c (e_v rfl) ea_n)) fun U _ => spec13 (k + 2) U w ok) (ea_c (v := .tup [rul (partN R 0 m), rul (partN R m n)]) (e_tup (ea_c (e_v rfl) (ea_c (e_v rfl) ea_n))) ea_n)) fun U _ => likeUs k [partN R 0 m, partN R m n] U))
    obtain ⟨T3, q3, p3⟩ := if_f (b := sN) (a := sQ (sR (mC (.bl false))) sN) t3
    have t4 : EB (tNo (tTru (mCall 29 (aC (mCall 22 (aC (mV 3) (aC (mV 4) (aC (mTup (aC (mC (.int (1))) (aC (mC (.int (1))) aN))) (aC (mTup (aC (mC (.int (1))) (aC (mC (.int (1))) aN))) aN))))) (aC (mV 0) aN))))) ⟨(semT tb (k + 7)).c, (semT tb (k + 7)).l, fun _ => .err⟩ [.pv (rul R), .pv (.lst j), .pv (.int (n : Int)), .pv (rul (partN R 0 m)), .pv (rul (partN R m n)), .un, .un, .pv (.int (m : Int)), .un, .un, .un, .un] T3 false :=
      eb_no (b := true) (eb_tru (e_call (ea_c (v := rul R) (e_call (ea_c (e_v rfl) (ea_c (e_v rfl) (ea_c (v := frp z11) (e_tup (ea_c e_c (ea_c e_c ea_n))) (ea_c (v := frp z11) (e_tup (ea_c e_c (ea_c e_c ea_n))) ea_n)))) fun U _ => by
        have s := spec22 (k + 1) U w0 w1 (by have := w.h6; omega)
        rw [jp] at s
        exact s) (ea_c (v := rul R) (e_v rfl) ea_n)) fun U _ => likeU (k + 1) R U))
    obtain ⟨T4, q4, p4⟩ := if_f (b := sN) (a := sQ (sR (mC (.bl false))) sN) t4
    refine ⟨_, T4, .inl ((nx_q q1).trans ((nx_q q2).trans ((nx_q q3).trans (nx_q q4)))), ⟨_, _, _, rfl, fun v => rfl⟩, (((pr.trans p1).trans p2).trans p3).trans p4⟩
  · rw [decide_eq_false hin] at cd
    have ok : okPl R n m = false := by rw [pl_iff]; exact decide_eq_false hin
    obtain ⟨T1, q1, p1⟩ := if_t (b := sN) (a := (sQ (sI (tBl (m2 cNe (mLam 30 (mCall 13 (aC (mV 0) (aC (mV 7) aN)))) (mC (.str [110, 117, 109, 98, 101, 114])))) (sQ (sR (mC (.bl false))) sN) sN) (sQ sCt sN))) cd
    have lm : ∀ U, mLam 30 (mCall 13 (aC (mV 0) (aC (mV 7) aN))) ⟨(semT tb (k + 7)).c, (semT tb (k + 7)).l, fun _ => .err⟩ [.pv (rul R), .pv (.lst j), .pv (.int (n : Int)), s3, s4, .un, .un, .pv (.int (m : Int)), .un, .un, .un, .un] U = .ok (.str snu) U := fun U => by
      refine lam43 (k := k + 5) ?_
      rw [hp]
      have s := spec13e k U w ok
      simp only [mCall, aC, aN, mV, bnd, bareC, List.getElem?_cons_zero, List.getElem?_cons_succ, s]
    have t2 : EB (tBl (m2 cNe (mLam 30 (mCall 13 (aC (mV 0) (aC (mV 7) aN)))) (mC (.str [110, 117, 109, 98, 101, 114])))) ⟨(semT tb (k + 7)).c, (semT tb (k + 7)).l, fun _ => .err⟩ [.pv (rul R), .pv (.lst j), .pv (.int (n : Int)), s3, s4, .un, .un, .pv (.int (m : Int)), .un, .un, .un, .un] T1 false :=
      eb_bl (e_2 (v := .str snu) (w := .str [110, 117, 109, 98, 101, 114]) (fun U _ => ⟨U, lm U, List.prefix_rfl⟩) e_c fun U => rfl)
    obtain ⟨T2, q2, p2⟩ := if_f (b := sN) (a := sQ (sR (mC (.bl false))) sN) t2
    refine ⟨[.pv (rul R), .pv (.lst j), .pv (.int (n : Int)), s3, s4, .un, .un, .pv (.int (m : Int)), .un, .un, .un, .un], T2, .inr ?_, ⟨s3, s4, _, rfl, hp⟩, (pr.trans p1).trans p2⟩
    have e1 : sI (tBl (m2 cNi (mV 7) (mV 1))) (sQ (sI (tBl (m2 cNe (mLam 30 (mCall 13 (aC (mV 0) (aC (mV 7) aN)))) (mC (.str [110, 117, 109, 98, 101, 114])))) (sQ (sR (mC (.bl false))) sN) sN) (sQ sCt sN)) sN ⟨(semT tb (k + 7)).c, (semT tb (k + 7)).l, fun _ => .err⟩ [.pv (rul R), .pv (.lst j), .pv (.int (n : Int)), s3, s4, .un, .un, .pv (.int (m : Int)), .un, .un, .un, .un] T = .ct [.pv (rul R), .pv (.lst j), .pv (.int (n : Int)), s3, s4, .un, .un, .pv (.int (m : Int)), .un, .un, .un, .un] T2 := q1.trans ((nx_q q2).trans rfl)
    unfold lb36
    show (match sI (tBl (m2 cNi (mV 7) (mV 1))) _ sN _ _ T with | .nx env' S' => _ | r => r) = _
    rw [e1]
end Lk

set_option Elab.async false
set_option linter.all false
set_option maxRecDepth 100000
set_option maxHeartbeats 0
namespace Lk
open PySem PySem.Spec PyProof.Rows L2 Mi
theorem okD_rul {T : Sto} {R : RU} : okD T 63 (rul R) = true := by
  have h1 : ∀ rs : List FL, (rs.map pol).all (okD T 61) = true := fun rs => by
    rw [List.all_eq_true]
    intro x hx
    obtain ⟨r, _, rfl⟩ := List.mem_map.mp hx
    exact okD_pol (n := 58)
  show ([.tup (R.1.map pol), pol R.2] : List PV).all (okD T 62) = true
  show (okD T 62 (.tup (R.1.map pol)) && (okD T 62 (pol R.2) && true)) = true
  have a : okD T 62 (.tup (R.1.map pol)) = true := h1 R.1
  have b : okD T 62 (pol R.2) = true := okD_pol (n := 59)
  rw [a, b]
  rfl
theorem nls_tail {l : List Nat} : cutP (nls l) (some 1) none = nls l.tail := by
  have := cutP_drop (xs := nls l) (m := 1)
  rw [show ((1 : Nat) : Int) = 1 from rfl] at this
  rw [this]
  unfold nls
  rw [← List.map_drop, List.drop_one]
theorem wholly_eq {R : RU} {n : Nat} : (((nls (endsN R n)).zip (nls (endsN R n).tail)).map fun p => rul (partN R (natP p.1) (natP p.2))) = (wholly R n).map rul := by
  rw [zip_nls]
  unfold wholly
  rw [List.map_map, List.map_map]
  rfl
theorem el_ends {cl : Cl} {env : Mi.Env} {S : Sto} {R : RU} {n j : Nat} {a b : Nat} (w : WR R n) (ha : env[a]? = some (.pv (.lst j))) (hc : cellL S j = some (nls (placesN R n))) (hb : env[b]? = some (.pv (.int (n : Int)))) : EL (m2 opAdd (m2 opAdd (mLst (aC (mC (.int (0))) aN)) (mV a)) (mLst (aC (mV b) aN))) cl env S (nls (endsN R n)) := by
  have le := ends_len (R := R) w.h6
  have hl : (endsN R n).length = 1 + (placesN R n).length + 1 := by unfold endsN; simp only [List.length_append, List.length_singleton]
  refine (el_add (xs := nls [0] ++ nls (placesN R n)) (ys := nls [n]) (el_add (el_lst (ea_c e_c ea_n)) (el_v ha hc) ?_) (el_lst (ea_c (e_v hb) ea_n)) ?_).cast ?_
  · simp only [nls_len, List.length_singleton]
    omega
  · simp only [List.length_append, nls_len, List.length_singleton]
    omega
  · unfold endsN
    rw [nls_app, nls_app]
theorem ro_nx {cl : Cl} {env env' : Mi.Env} {S T : Sto} {a r : MS} {v : PV} (h : a cl env S = .nx env' T) (p : S <+: T) (k : RO r cl env' T v) : RO (sQ a r) cl env S v := by
  obtain ⟨U, h1, q⟩ := k
  exact ⟨U, by rw [nx_q h, h1], p.trans q⟩
theorem spec36 (k : Nat) {R : RU} {n : Nat} (S : Sto) (w : WR R n) : (semT tb (k + 8)).c 36 [rul R] S = .ok (.bl true) S := by
  rw [e36]
  have n6 := w.h6
  have le := ends_len (R := R) w.h6
  refine RO.fin (ro_sl (xs := nls (placesN R n)) (el_call (ea_c (e_v rfl) ea_n) fun T _ => spec34 (k + 6) T w) fun T1 j p1 c1 => ro_s (v := .int (n : Int)) (e_lenE w rfl) fun T2 p2 => ro_no (eb_no (b := true) (eb_tru (e_call (ea_c (v := .tup (nls (placesN R n))) (e_call (ea_c (e_v rfl) ea_n) fun T _ => spec12 (k + 2) T w) (ea_c (v := .tup (nls (placesN R n))) (bTupE (el_v rfl (cell_pre c1 p2))) ea_n)) fun T _ => likeN (k + 4) (placesN R n) T))) fun T3 p3 => ?_) rfl
  have c3 := cell_pre (cell_pre c1 p2) p3
  obtain ⟨e, T4, q4, h4⟩ := fo_i (cl := ⟨(semT tb (k + 7)).c, (semT tb (k + 7)).l, fun _ => .err⟩) (env := [.pv (rul R), .pv (.lst j), .pv (.int (n : Int)), .un, .un, .un, .un, .un, .un, .un, .un, .un]) (S := T3) (g := gV 7) (b := lb36) (mi := iR (aC (mC (.int (0))) (aC (m2 opAdd (mV 2) (mC (.int (1)))) aN))) (xs := nls (List.range' 0 (n + 1 - 0))) (P := fun i env T => P36 R n j T3 env T)
    (i_rng2 (a := 0) (b := n + 1) (by omega) (by omega) e_c (e_2 (v := .int (n : Int)) (w := .int 1) (e_v rfl) e_c fun T => rfl)) (fun T p => ⟨⟨.un, .un, .un, rfl, fun v => rfl⟩, p⟩) (fun i x env T hx hp => by
    have hi : i < n + 1 := by
      have := (List.getElem?_eq_some_iff.mp hx).1
      rw [nls_len, List.length_range'] at this
      omega
    have ex : x = .int (i : Int) := by
      unfold nls at hx
      rw [List.getElem?_map, List.getElem?_range' (by omega)] at hx
      refine (Option.some.inj hx).symm.trans ?_
      have e2 : 0 + 1 * i = i := by omega
      show PV.int ((0 + 1 * i : Nat) : Int) = _
      rw [e2]
    subst ex
    obtain ⟨s3, s4, s7, he, hpl⟩ := hp.en
    subst he
    obtain ⟨e, T2, a, b⟩ := turn36 k (m := i) (B := T3) (s3 := s3) (s4 := s4) w (by omega) (cell_pre c3 hp.pr) hpl hp.pr
    exact ⟨_, e, T2, rfl, a, b⟩)
  obtain ⟨s3, s4, s7, he, hpl⟩ := h4.en
  subst he
  have c4 := cell_pre c3 h4.pr
  refine ro_nx (a := sFo (gV 7) (iR (aC (mC (.int (0))) (aC (m2 opAdd (mV 2) (mC (.int (1)))) aN))) lb36) q4 h4.pr ?_
  refine ro_sl (xs := nls (endsN R n)) (el_ends w rfl c4 rfl) fun T5 j5 p5 c5 => ro_s (v := .tup ((wholly R n).map rul)) ((bTupE (el_lz (f := fun x y => rul (partN R (natP x) (natP y))) (el_v rfl c5) ((el_sl (l := some 1) (h := none) (el_v rfl c5) e_c trivial).cast nls_tail) (fun p hp => ?_) ?_)).cast (congrArg PV.tup wholly_eq)) fun T6 p6 => ro_no (eb_no (b := true) (eb_tru (e_call (ea_c (v := .tup ((wholly R n).map rul)) (e_call (ea_c (e_v rfl) ea_n) fun T _ => spec14 (k + 2) T w) (ea_c (v := .tup ((wholly R n).map rul)) (e_v rfl) ea_n)) fun T _ => likeUs k (wholly R n) T))) fun T7 p7 => ro_r ?_
  · rw [zip_nls] at hp
    obtain ⟨q, hq, rfl⟩ := List.mem_map.mp hp
    obtain ⟨q1, q2, q3, q4⟩ := zip_tail (ends_up w.h1) q hq
    refine ⟨_, rfl, e_call (ea_c (e_v rfl) (ea_c (e_v rfl) (ea_c (e_v rfl) ea_n))) fun T _ => ?_⟩
    exact spec35 (k + 6) T w (Nat.le_of_lt q1) (ends_le _ q3)
  · rw [List.length_zip, nls_len]
    omega
  · refine (e_2b (el_lc (p := fun _ => false) (f := id) (xs := (wholly R n).map rul) (i_tup (e_v rfl)) (fun x hx => ?_) ?_) (el_lst ea_n) fun T i j c d => cEq_nilR c d fun x hx => ?_).cast ?_
    · obtain ⟨P, hP, rfl⟩ := List.mem_map.mp hx
      obtain ⟨q, hq, rfl⟩ := List.mem_map.mp hP
      obtain ⟨q1, q2, q3, q4⟩ := zip_tail (ends_up w.h1) q hq
      have wp := part_wr w q1 (ends_le _ q3)
      have pn := part_none w hq
      refine ⟨_, rfl, eb_bl ((e_2b (xs := []) (el_call (ea_c (e_v rfl) ea_n) fun T _ => ?_) (el_lst ea_n) fun T i j c d => cNe_nilR c d fun x hx => by cases hx).cast rfl), fun h => by cases h⟩
      have s := spec34 (k + 6) T wp
      rw [pn] at s
      exact s
    · rw [List.length_map]
      unfold wholly
      rw [List.length_map, List.length_zip]
      omega
    · rw [List.map_id] at hx
      have := (List.mem_filter.mp hx).2
      cases this
    · rw [List.map_id, List.filter_eq_nil_iff.mpr fun x _ h => by cases h]
      rfl
end Lk

set_option Elab.async false
set_option linter.all false
set_option maxRecDepth 100000
set_option maxHeartbeats 0
namespace Lk
open PySem PySem.Spec PyProof.Rows L2 Mi
def ent (A B : RU) (a at' spot : Nat) : Int × Int := if at' < a then (if spot < a then (A.1.getD at' []).getD spot z01 else z01) else (if spot < a then A.2.getD spot z01 else (B.1.getD (at' - a) []).getD (spot - a) z01)
def ib33 : MS := (sQ (sI (tBl (m2 (cInt fun i j => decide (i < j)) (mV 5) (mV 2))) (sQ (sX (mMt 1 mApp (mV 6) (aC (mIf (tBl (m2 (cInt fun i j => decide (i < j)) (mV 7) (mV 2))) (m2 oIx (m2 oIx (m2 oIx (mV 0) (mC (.int (0)))) (mV 5)) (mV 7)) (mTup (aC (mC (.int (0))) (aC (mC (.int (1))) aN)))) aN)))
    sN) (sQ (sX (mMt 1 mApp (mV 6) (aC (mIf (tBl (m2 (cInt fun i j => decide (i < j)) (mV 7) (mV 2))) (m2 oIx (m2 oIx (mV 0) (mC (.int (1)))) (mV 7)) (m2 oIx (m2 oIx (m2 oIx (mV 1) (mC (.int (0)))) (m2 opSub (mV 5) (mV 2))) (m2 opSub (mV 7) (mV 2)))) aN)))
    sN))
    sN)
theorem lt_nat {i j : Nat} {T : Sto} : cInt (fun i j => decide (i < j)) (.int (i : Int)) (.int (j : Int)) T = some (.bl (decide (i < j)), T) := by
  show some (PV.bl (decide ((i : Int) < (j : Int))), T) = _
  rw [dI_lt]
theorem below_frp {n : Nat} {p : Int × Int} : below n (frp p) = true := by simp only [frp, below, belows, Bool.and_true]
/-- one entry more -/
theorem turn33 {cl : Cl} {A B : RU} {a b at' spot j ja : Nat} {T : Sto} {F : List PV} (wA : WR A a) (wB : WR B b) (h1 : at' < a + b) (h2 : spot < a + b) (hc : cellL T ja = some F) (hl : F.length < 1000) : ∃ T1, ib33 cl [.pv (rul A), .pv (rul B), .pv (.int (a : Int)), .pv (.int (b : Int)), .pv (.lst j), .pv (.int (at' : Int)), .pv (.lst ja), .pv (.int (spot : Int))] T = .nx [.pv (rul A), .pv (rul B), .pv (.int (a : Int)), .pv (.int (b : Int)), .pv (.lst j), .pv (.int (at' : Int)), .pv (.lst ja), .pv (.int (spot : Int))] (T1.set ja (.lst (F ++ [frp (ent A B a at' spot)]))) ∧ T <+: T1 := by
  have a1 := wA.l1
  have a3 := wA.l3
  have b1 := wB.l1
  by_cases c1 : at' < a
  · obtain ⟨T1, q1, p1⟩ := if_t (cl := cl) (env := [.pv (rul A), .pv (rul B), .pv (.int (a : Int)), .pv (.int (b : Int)), .pv (.lst j), .pv (.int (at' : Int)), .pv (.lst ja), .pv (.int (spot : Int))]) (S := T) (t := tBl (m2 (cInt fun i j => decide (i < j)) (mV 5) (mV 2))) (b := (sQ (sX (mMt 1 mApp (mV 6) (aC (mIf (tBl (m2 (cInt fun i j => decide (i < j)) (mV 7) (mV 2))) (m2 oIx (m2 oIx (mV 0) (mC (.int (1)))) (mV 7)) (m2 oIx (m2 oIx (m2 oIx (mV 1) (mC (.int (0)))) (m2 opSub (mV 5) (mV 2))) (m2 opSub (mV 7) (mV 2)))) aN))) sN)) (a := (sQ (sX (mMt 1 mApp (mV 6) (aC (mIf (tBl (m2 (cInt fun i j => decide (i < j)) (mV 7) (mV 2))) (m2 oIx (m2 oIx (m2 oIx (mV 0) (mC (.int (0)))) (mV 5)) (mV 7)) (mTup (aC (mC (.int (0))) (aC (mC (.int (1))) aN)))) aN))) sN)) (eb_bl (e_2 (e_v rfl) (e_v rfl) fun T => by rw [lt_nat, decide_eq_true c1]))
    obtain ⟨r, hr⟩ : ∃ r, A.1[at']? = some r := ⟨A.1[at'], List.getElem?_eq_getElem (by omega)⟩
    have rl := wA.l2 r (List.mem_of_getElem? hr)
    obtain ⟨T2, q2, p2⟩ := x_app (cl := cl) (env := [.pv (rul A), .pv (rul B), .pv (.int (a : Int)), .pv (.int (b : Int)), .pv (.lst j), .pv (.int (at' : Int)), .pv (.lst ja), .pv (.int (spot : Int))]) (i := 6) (m := (mIf (tBl (m2 (cInt fun i j => decide (i < j)) (mV 7) (mV 2))) (m2 oIx (m2 oIx (m2 oIx (mV 0) (mC (.int (0)))) (mV 5)) (mV 7)) (mTup (aC (mC (.int (0))) (aC (mC (.int (1))) aN))))) (v := frp (ent A B a at' spot)) rfl (cell_pre hc p1) (e_if (c := decide (spot < a)) (eb_bl (e_2 (e_v rfl) (e_v rfl) fun T => lt_nat)) (fun h => by
      have h := of_decide_eq_true h
      refine (e_2 (v := pol r) (w := .int (spot : Int)) (e_2 (v := .tup (A.1.map pol)) (w := .int (at' : Int)) (e_2 (e_v rfl) e_c fun T => rfl) (e_v rfl) fun T => oIx_row hr) (e_v rfl) fun T => oIx_tup (get_getD (by omega))).cast ?_
      unfold ent
      rw [if_pos c1, if_pos h, getD_row hr]) (fun h => by
      have h := of_decide_eq_false h
      refine (e_tup (ea_c e_c (ea_c e_c ea_n))).cast ?_
      unfold ent
      rw [if_pos c1, if_neg h]
      rfl)) (by omega) below_frp
    exact ⟨T2, nx_q (q1.trans (nx_q q2)), p1.trans p2⟩
  · obtain ⟨T1, q1, p1⟩ := if_f (cl := cl) (env := [.pv (rul A), .pv (rul B), .pv (.int (a : Int)), .pv (.int (b : Int)), .pv (.lst j), .pv (.int (at' : Int)), .pv (.lst ja), .pv (.int (spot : Int))]) (S := T) (t := tBl (m2 (cInt fun i j => decide (i < j)) (mV 5) (mV 2))) (b := (sQ (sX (mMt 1 mApp (mV 6) (aC (mIf (tBl (m2 (cInt fun i j => decide (i < j)) (mV 7) (mV 2))) (m2 oIx (m2 oIx (mV 0) (mC (.int (1)))) (mV 7)) (m2 oIx (m2 oIx (m2 oIx (mV 1) (mC (.int (0)))) (m2 opSub (mV 5) (mV 2))) (m2 opSub (mV 7) (mV 2)))) aN))) sN)) (a := (sQ (sX (mMt 1 mApp (mV 6) (aC (mIf (tBl (m2 (cInt fun i j => decide (i < j)) (mV 7) (mV 2))) (m2 oIx (m2 oIx (m2 oIx (mV 0) (mC (.int (0)))) (mV 5)) (mV 7)) (mTup (aC (mC (.int (0))) (aC (mC (.int (1))) aN)))) aN))) sN)) (eb_bl (e_2 (e_v rfl) (e_v rfl) fun T => by rw [lt_nat, decide_eq_false c1]))
    obtain ⟨r, hr⟩ : ∃ r, B.1[at' - a]? = some r := ⟨B.1[at' - a], List.getElem?_eq_getElem (by omega)⟩
    have rl := wB.l2 r (List.mem_of_getElem? hr)
    obtain ⟨T2, q2, p2⟩ := x_app (cl := cl) (env := [.pv (rul A), .pv (rul B), .pv (.int (a : Int)), .pv (.int (b : Int)), .pv (.lst j), .pv (.int (at' : Int)), .pv (.lst ja), .pv (.int (spot : Int))]) (i := 6) (m := (mIf (tBl (m2 (cInt fun i j => decide (i < j)) (mV 7) (mV 2))) (m2 oIx (m2 oIx (mV 0) (mC (.int (1)))) (mV 7)) (m2 oIx (m2 oIx (m2 oIx (mV 1) (mC (.int (0)))) (m2 opSub (mV 5) (mV 2))) (m2 opSub (mV 7) (mV 2))))) (v := frp (ent A B a at' spot)) rfl (cell_pre hc p1) (e_if (c := decide (spot < a)) (eb_bl (e_2 (e_v rfl) (e_v rfl) fun T => lt_nat)) (fun h => by
      have h := of_decide_eq_true h
      refine (e_2 (v := pol A.2) (w := .int (spot : Int)) (e_2 (e_v rfl) e_c fun T => rfl) (e_v rfl) fun T => oIx_tup (get_getD (by omega))).cast ?_
      unfold ent
      rw [if_neg c1, if_pos h]) (fun h => by
      have h := of_decide_eq_false h
      refine (e_2 (v := pol r) (w := .int ((spot - a : Nat) : Int)) (e_2 (v := .tup (B.1.map pol)) (w := .int ((at' - a : Nat) : Int)) (e_2 (e_v rfl) e_c fun T => rfl) (e_2 (e_v rfl) (e_v rfl) fun T => opSub_nat (by omega)) fun T => oIx_row hr) (e_2 (e_v rfl) (e_v rfl) fun T => opSub_nat (by omega)) fun T => oIx_tup (get_getD (by omega))).cast ?_
      unfold ent
      rw [if_neg c1, if_neg h, getD_row hr])) (by omega) below_frp
    exact ⟨T2, nx_q (q1.trans (nx_q q2)), p1.trans p2⟩
def entRow (A B : RU) (a N at' : Nat) : FL := (List.range N).map (ent A B a at')
def mb33 : MS := sQ (sS 6 (mLst aN)) (sQ (sFo (gV 7) (iR (aC (m2 opAdd (mV 2) (mV 3)) aN)) ib33) (sQ (sX (mMt 1 mApp (mV 4) (aC (mL bTup (aC (mV 6) aN)) aN))) sN))
structure P33 (A B : RU) (a b at' j ja : Nat) (S : Sto) (F : List PV) (i : Nat) (env : Mi.Env) (T : Sto) : Prop where
  en : ∃ s7, env = [.pv (rul A), .pv (rul B), .pv (.int (a : Int)), .pv (.int (b : Int)), .pv (.lst j), .pv (.int (at' : Int)), .pv (.lst ja), s7]
  pr : S <+: T
  c1 : cellL T j = some F
  c2 : cellL T ja = some (((List.range i).map (ent A B a at')).map frp)
structure O33 (A B : RU) (a b : Nat) (S : Sto) (i : Nat) (env : Mi.Env) (T : Sto) : Prop where
  en : ∃ j s5 s6 s7, env = [.pv (rul A), .pv (rul B), .pv (.int (a : Int)), .pv (.int (b : Int)), .pv (.lst j), s5, s6, s7] ∧ S.length ≤ j ∧ cellL T j = some (((List.range i).map (entRow A B a (a + b))).map pol)
  pr : S <+: T
theorem rng_at {N i : Nat} {x : PV} (hx : (nls (List.range' 0 N))[i]? = some x) : i < N ∧ x = .int (i : Int) := by
  have hi : i < N := by
    have := (List.getElem?_eq_some_iff.mp hx).1
    rwa [nls_len, List.length_range'] at this
  refine ⟨hi, ?_⟩
  unfold nls at hx
  rw [List.getElem?_map, List.getElem?_range' hi] at hx
  refine (Option.some.inj hx).symm.trans ?_
  have e2 : 0 + 1 * i = i := by omega
  show PV.int ((0 + 1 * i : Nat) : Int) = _
  rw [e2]
theorem i_rng0 {cl : Cl} {env : Mi.Env} {S : Sto} {x : ME} {b : Nat} (hb : b ≤ 1000000) (k : E x cl env S (.int (b : Int))) : ∀ T, S <+: T → ∃ T', iR (aC x aN) cl env T = .ok (.im (nls (List.range' 0 b))) T' ∧ T <+: T' := fun T q => by
  obtain ⟨T', h1, p⟩ := i_rng hb k T q
  refine ⟨T', ?_, p⟩
  rw [h1]
  have e : rngL (fun k => (k : Int)) b = nls (List.range' 0 b) := by
    rw [rngL_map, List.range_eq_range']
    rfl
  rw [e]
theorem spec33 (k : Nat) {A B : RU} {a b : Nat} (S : Sto) (wA : WR A a) (wB : WR B b) : (semT tb (k + 1)).c 33 [rul A, rul B] S = .ok (.tup [.tup (((List.range (a + b)).map (entRow A B a (a + b))).map pol), pol (A.2 ++ B.2)]) S := by
  rw [e33]
  have a6 := wA.h6
  have b6 := wB.h6
  have a3 := wA.l3
  have b3 := wB.l3
  have ea : EA (aC (mL bLen (aC (m2 oIx (mV 0) (mC (.int (1)))) aN)) (aC (mL bLen (aC (m2 oIx (mV 1) (mC (.int (1)))) aN)) aN)) ⟨(semT tb k).c, (semT tb k).l, fun _ => .err⟩ [.pv (rul A), .pv (rul B), .un, .un, .un, .un, .un, .un] S [.int (a : Int), .int (b : Int)] :=
    ea_c (e_L (ea_c (v := pol A.2) (e_2 (e_v rfl) e_c fun T => rfl) ea_n) fun T => by rw [bLen_pol, a3]) (ea_c (e_L (ea_c (v := pol B.2) (e_2 (e_v rfl) e_c fun T => rfl) ea_n) fun T => by rw [bLen_pol, b3]) ea_n)
  refine RO.fin (ro_p2 ea fun T1 p1 => ?_) (by simp only [below, belows, Bool.and_true, below_pol]; exact belows_pol)
  obtain ⟨T2, j, q2, p2, hn2, c2⟩ := nx_sn (cl := ⟨(semT tb k).c, (semT tb k).l, fun _ => .err⟩) (env := [.pv (rul A), .pv (rul B), .pv (.int (a : Int)), .pv (.int (b : Int)), .un, .un, .un, .un]) (S := T1) (i := 4) (m := mLst aN) (xs := []) (en_lst ea_n)
  have sm : ∀ {s4 s5 s6 s7 : Slot} {S : Sto}, E (m2 opAdd (mV 2) (mV 3)) ⟨(semT tb k).c, (semT tb k).l, fun _ => .err⟩ [.pv (rul A), .pv (rul B), .pv (.int (a : Int)), .pv (.int (b : Int)), s4, s5, s6, s7] S (.int ((a + b : Nat) : Int)) := e_2 (e_v rfl) (e_v rfl) fun T => rfl
  obtain ⟨e, T3, q3, h3⟩ := fo_i (cl := ⟨(semT tb k).c, (semT tb k).l, fun _ => .err⟩) (env := [.pv (rul A), .pv (rul B), .pv (.int (a : Int)), .pv (.int (b : Int)), .pv (.lst j), .un, .un, .un]) (S := T2) (g := gV 5) (b := mb33) (mi := iR (aC (m2 opAdd (mV 2) (mV 3)) aN)) (xs := nls (List.range' 0 (a + b))) (P := fun i env T => O33 A B a b T1 i env T)
    (i_rng0 (by omega) sm) (fun T p => ⟨⟨j, .un, .un, .un, rfl, hn2, cell_pre c2 p⟩, p2.trans p⟩) (fun at' x env T hx hp => by
    obtain ⟨hat, rfl⟩ := rng_at hx
    obtain ⟨j, s5, s6, s7, he, hj, hc⟩ := hp.en
    subst he
    obtain ⟨U1, ja, r1, v1, hna, d1⟩ := nx_sn (cl := ⟨(semT tb k).c, (semT tb k).l, fun _ => .err⟩) (env := [.pv (rul A), .pv (rul B), .pv (.int (a : Int)), .pv (.int (b : Int)), .pv (.lst j), .pv (.int (at' : Int)), s6, s7]) (S := T) (i := 6) (m := mLst aN) (xs := []) (en_lst ea_n)
    have hjl := cell_ltl hc
    obtain ⟨e, U2, r2, hin⟩ := fo_i (cl := ⟨(semT tb k).c, (semT tb k).l, fun _ => .err⟩) (env := [.pv (rul A), .pv (rul B), .pv (.int (a : Int)), .pv (.int (b : Int)), .pv (.lst j), .pv (.int (at' : Int)), .pv (.lst ja), s7]) (S := U1) (g := gV 7) (b := ib33) (mi := iR (aC (m2 opAdd (mV 2) (mV 3)) aN)) (xs := nls (List.range' 0 (a + b))) (P := fun i env T => P33 A B a b at' j ja T1 (((List.range at').map (entRow A B a (a + b))).map pol) i env T)
      (i_rng0 (by omega) sm) (fun T' p => ⟨⟨s7, rfl⟩, (hp.pr.trans v1).trans p, cell_pre (cell_pre hc v1) p, cell_pre d1 p⟩) (fun spot x env T' hx hq => by
      obtain ⟨hsp, rfl⟩ := rng_at hx
      obtain ⟨s7, he⟩ := hq.en
      subst he
      obtain ⟨T4, r4, v4⟩ := turn33 (cl := ⟨(semT tb k).c, (semT tb k).l, fun _ => .err⟩) (j := j) (b := b) wA wB hat hsp hq.c2 (by simp only [List.length_map, List.length_range]; omega)
      refine ⟨_, _, _, rfl, .inl r4, ⟨_, rfl⟩, pre_set (hq.pr.trans v4) (Nat.le_trans (len_pre hp.pr) hna), by rw [cell_set_ne (by omega)]; exact cell_pre hq.c1 v4, ?_⟩
      rw [cell_set (cell_pre hq.c2 v4), List.range_succ, List.map_append, List.map_append]
      rfl)
    obtain ⟨s7', he⟩ := hin.en
    subst he
    have hc2 := hin.c2
    rw [nls_len, List.length_range'] at hc2
    obtain ⟨U3, r3, v3⟩ := x_app (cl := ⟨(semT tb k).c, (semT tb k).l, fun _ => .err⟩) (env := [.pv (rul A), .pv (rul B), .pv (.int (a : Int)), .pv (.int (b : Int)), .pv (.lst j), .pv (.int (at' : Int)), .pv (.lst ja), s7']) (i := 4) (m := mL bTup (aC (mV 6) aN)) (v := pol (entRow A B a (a + b) at')) rfl hin.c1 (bTupE (el_v rfl hc2)) (by simp only [List.length_map, List.length_range]; omega) below_pol
    refine ⟨_, _, _, rfl, .inl ((nx_q r1).trans ((nx_q r2).trans (nx_q r3))), ⟨j, _, _, _, rfl, hj, ?_⟩, pre_set (hin.pr.trans v3) hj⟩
    rw [cell_set (cell_pre hin.c1 v3), List.range_succ, List.map_append, List.map_append]
    rfl)
  obtain ⟨j', s5, s6, s7, he, hj, hc⟩ := h3.en
  subst he
  rw [nls_len, List.length_range'] at hc
  have fin : RO (sQ (sR (mTup (aC (mL bTup (aC (mV 4) aN)) (aC (m2 opAdd (m2 oIx (mV 0) (mC (.int (1)))) (m2 oIx (mV 1) (mC (.int (1))))) aN)))) sN) ⟨(semT tb k).c, (semT tb k).l, fun _ => .err⟩ [.pv (rul A), .pv (rul B), .pv (.int (a : Int)), .pv (.int (b : Int)), .pv (.lst j'), s5, s6, s7] T3 (.tup [.tup (((List.range (a + b)).map (entRow A B a (a + b))).map pol), pol (A.2 ++ B.2)]) :=
    ro_r (e_tup (ea_c (bTupE (el_v rfl hc)) (ea_c (e_2 (v := pol A.2) (w := pol B.2) (e_2 (e_v rfl) e_c fun T => rfl) (e_2 (e_v rfl) e_c fun T => rfl) fun T => opAdd_pol (by omega)) ea_n)))
  obtain ⟨U, hU, pU⟩ := fin
  have f : sQ (sS 4 (mLst aN)) (sQ (sFo (gV 5) (iR (aC (m2 opAdd (mV 2) (mV 3)) aN)) mb33) (sQ (sR (mTup (aC (mL bTup (aC (mV 4) aN)) (aC (m2 opAdd (m2 oIx (mV 0) (mC (.int (1)))) (m2 oIx (mV 1) (mC (.int (1))))) aN)))) sN)) ⟨(semT tb k).c, (semT tb k).l, fun _ => .err⟩ [.pv (rul A), .pv (rul B), .pv (.int (a : Int)), .pv (.int (b : Int)), .un, .un, .un, .un] T1 = _ := (nx_q q2).trans (nx_q q3)
  refine ⟨U, ?_, h3.pr.trans pU⟩
  refine Eq.trans (congrArg outR f) hU
theorem row_eq {A B : RU} {a b at' : Nat} (wA : WR A a) (wB : WR B b) (h : at' < a + b) : (joinR A B).1[at']? = some (entRow A B a (a + b) at') := by
  have a1 := wA.l1
  have a3 := wA.l3
  have b1 := wB.l1
  have b3 := wB.l3
  show (A.1.map (fun r => r ++ List.replicate B.2.length z01) ++ B.1.map (fun r => A.2 ++ r))[at']? = _
  have ext : ∀ r : FL, r.length = a + b → (∀ s, s < a + b → r.getD s z01 = ent A B a at' s) → r = entRow A B a (a + b) at' := fun r hl hs => by
    unfold entRow
    refine List.ext_getElem? fun s => ?_
    rw [List.getElem?_map]
    by_cases h : s < a + b
    · rw [get_getD (by omega), hs s h, List.getElem?_range h]
      rfl
    · rw [List.getElem?_eq_none (by omega), List.getElem?_eq_none (by rw [List.length_range]; omega)]
      rfl
  by_cases c : at' < a
  · rw [List.getElem?_append_left (by rw [List.length_map]; omega), List.getElem?_map]
    obtain ⟨r, hr⟩ : ∃ r, A.1[at']? = some r := ⟨A.1[at'], List.getElem?_eq_getElem (by omega)⟩
    have rl := wA.l2 r (List.mem_of_getElem? hr)
    rw [hr]
    show some _ = _
    congr 1
    refine ext _ (by rw [List.length_append, List.length_replicate]; omega) fun s hs => ?_
    unfold ent
    rw [if_pos c, getD_row hr, List.getD_eq_getElem?_getD, List.getElem?_append]
    by_cases d : s < a
    · rw [if_pos (by omega), if_pos d, List.getD_eq_getElem?_getD]
    · rw [if_neg (by omega), if_neg d, List.getElem?_replicate, if_pos (by omega)]
      rfl
  · rw [List.getElem?_append_right (by rw [List.length_map]; omega), List.getElem?_map, List.length_map, a1]
    obtain ⟨r, hr⟩ : ∃ r, B.1[at' - a]? = some r := ⟨B.1[at' - a], List.getElem?_eq_getElem (by omega)⟩
    have rl := wB.l2 r (List.mem_of_getElem? hr)
    rw [hr]
    show some _ = _
    congr 1
    refine ext _ (by rw [List.length_append]; omega) fun s hs => ?_
    unfold ent
    rw [if_neg c, getD_row hr, List.getD_eq_getElem?_getD, List.getElem?_append]
    by_cases d : s < a
    · rw [if_pos (by omega), if_pos d, List.getD_eq_getElem?_getD]
    · rw [if_neg (by omega), if_neg d, List.getD_eq_getElem?_getD, a3]
theorem behind_eq {A B : RU} {a b : Nat} (wA : WR A a) (wB : WR B b) : PV.tup [.tup (((List.range (a + b)).map (entRow A B a (a + b))).map pol), pol (A.2 ++ B.2)] = rul (joinR A B) := by
  have : (List.range (a + b)).map (entRow A B a (a + b)) = (joinR A B).1 := by
    refine List.ext_getElem? fun i => ?_
    rw [List.getElem?_map]
    by_cases h : i < a + b
    · rw [List.getElem?_range h, row_eq wA wB h]
      rfl
    · have hl : (joinR A B).1.length = a + b := by
        show (A.1.map (fun r => r ++ List.replicate B.2.length z01) ++ B.1.map (fun r => A.2 ++ r)).length = _
        rw [List.length_append, List.length_map, List.length_map, wA.l1, wB.l1]
      rw [List.getElem?_eq_none (by rw [List.length_range]; omega), List.getElem?_eq_none (by omega)]
      rfl
  rw [this]
  rfl
theorem join_wr {A B : RU} {a b : Nat} (wA : WR A a) (wB : WR B b) (h : a + b ≤ 6) : WR (joinR A B) (a + b) := by
  have a1 := wA.l1
  have a3 := wA.l3
  have b1 := wB.l1
  have b3 := wB.l3
  have z3 : Fr 3 z01 := Fr01.mono (by decide)
  refine ⟨?_, fun r hr => ?_, ?_, by have := wA.h1; omega, h, fun r hr p hp => ?_, fun p hp => ?_⟩
  · show (A.1.map (fun r => r ++ List.replicate B.2.length z01) ++ B.1.map (fun r => A.2 ++ r)).length = _
    rw [List.length_append, List.length_map, List.length_map, a1, b1]
  · rcases List.mem_append.mp hr with h | h
    · obtain ⟨r0, h0, rfl⟩ := List.mem_map.mp h
      have := wA.l2 r0 h0
      rw [List.length_append, List.length_replicate]; omega
    · obtain ⟨r0, h0, rfl⟩ := List.mem_map.mp h
      have := wB.l2 r0 h0
      rw [List.length_append]; omega
  · show (A.2 ++ B.2).length = _
    rw [List.length_append]; omega
  · rcases List.mem_append.mp hr with h | h
    · obtain ⟨r0, h0, rfl⟩ := List.mem_map.mp h
      rcases List.mem_append.mp hp with q | q
      · exact wA.f r0 h0 p q
      · rw [List.eq_of_mem_replicate q]; exact z3
    · obtain ⟨r0, h0, rfl⟩ := List.mem_map.mp h
      rcases List.mem_append.mp hp with q | q
      · exact wA.g p q
      · exact wB.f r0 h0 p q
  · rcases List.mem_append.mp hp with q | q
    · exact wA.g p q
    · exact wB.g p q
theorem spec33j (k : Nat) {A B : RU} {a b : Nat} (S : Sto) (wA : WR A a) (wB : WR B b) : (semT tb (k + 1)).c 33 [rul A, rul B] S = .ok (rul (joinR A B)) S := by
  rw [spec33 k S wA wB, behind_eq wA wB]
end Lk

set_option Elab.async false
set_option linter.all false
set_option maxRecDepth 100000
set_option maxHeartbeats 0
namespace Lk
open PySem PySem.Spec PyProof.Rows L2 Mi
/-! ### draws -/
theorem cup_mono {a b : Int} {T U : Sto} (p : T <+: U) : cup a b T <+: cup a b U := by
  obtain ⟨X, rfl⟩ := p
  exact ⟨X, rfl⟩
theorem cup_pre {a b : Int} {T V : Sto} (p : cup a b T <+: V) : ∃ U, V = cup a b U ∧ T <+: U := by
  obtain ⟨X, rfl⟩ := p
  exact ⟨T ++ X, rfl, List.prefix_append _ _⟩
def EC (m : ME) (cl : Cl) (env : Mi.Env) (T : Sto) (P : PV → Prop) : Prop := ∀ a b U, T <+: U → ∃ v a' b' U', m cl env (cup a b U) = .ok v (cup a' b' U') ∧ U <+: U' ∧ P v
def EAC (m : MA) (cl : Cl) (env : Mi.Env) (T : Sto) (P : List PV → Prop) : Prop := ∀ a b U, T <+: U → ∃ v a' b' U', m cl env (cup a b U) = .ok v (cup a' b' U') ∧ U <+: U' ∧ P v
section
variable {cl : Cl} {env : Mi.Env} {T : Sto}
theorem ec_of {m : ME} {v : PV} (h : ∀ a b, E m cl env (cup a b T) v) : EC m cl env T (· = v) := fun a b U p => by
  obtain ⟨V, h1, q⟩ := h a b (cup a b U) (cup_mono p)
  obtain ⟨U', rfl, q'⟩ := cup_pre q
  exact ⟨v, a, b, U', h1, q', rfl⟩
theorem EC.imp {m : ME} {P Q : PV → Prop} (h : EC m cl env T P) (k : ∀ v, P v → Q v) : EC m cl env T Q := fun a b U p => by
  obtain ⟨v, a', b', U', h1, q, z⟩ := h a b U p
  exact ⟨v, a', b', U', h1, q, k v z⟩
theorem ec_2 {g : O2} {x y : ME} {P Q R : PV → Prop} (hx : EC x cl env T P) (hy : EC y cl env T Q) (hg : ∀ v w, P v → Q w → ∃ r, (∀ T, g v w T = some (r, T)) ∧ R r) : EC (m2 g x y) cl env T R := fun a b U p => by
  obtain ⟨v, a1, b1, U1, h1, q1, z1⟩ := hx a b U p
  obtain ⟨w, a2, b2, U2, h2, q2, z2⟩ := hy a1 b1 U1 (p.trans q1)
  obtain ⟨r, hr, z⟩ := hg v w z1 z2
  exact ⟨r, a2, b2, U2, by simp only [m2, bnd, h1, h2, hr, ofO], q1.trans q2, z⟩
theorem eac_n : EAC aN cl env T (· = []) := fun a b U p => ⟨[], a, b, U, rfl, List.prefix_rfl, rfl⟩
theorem eac_c {x : ME} {r : MA} {P : PV → Prop} {Q : List PV → Prop} (hx : EC x cl env T P) (hr : EAC r cl env T Q) : EAC (aC x r) cl env T fun l => ∃ v vs, l = v :: vs ∧ P v ∧ Q vs := fun a b U p => by
  obtain ⟨v, a1, b1, U1, h1, q1, z1⟩ := hx a b U p
  obtain ⟨w, a2, b2, U2, h2, q2, z2⟩ := hr a1 b1 U1 (p.trans q1)
  exact ⟨v :: w, a2, b2, U2, by simp only [aC, bnd, h1, h2], q1.trans q2, v, w, rfl, z1, z2⟩
theorem ec_call {j : Nat} {as : MA} {P : List PV → Prop} {Q : PV → Prop} (ha : EAC as cl env T P) (hc : ∀ vs, P vs → ∀ a b U, ∃ v a' b', cl.call j vs (cup a b U) = .ok v (cup a' b' U) ∧ Q v) : EC (mCall j as) cl env T Q := fun a b U p => by
  obtain ⟨vs, a1, b1, U1, h1, q1, z1⟩ := ha a b U p
  obtain ⟨v, a2, b2, h2, z2⟩ := hc vs z1 a1 b1 U1
  exact ⟨v, a2, b2, U1, by simp only [mCall, bnd, h1, h2], q1, z2⟩
theorem ec_tup {as : MA} {P : List PV → Prop} (ha : EAC as cl env T P) : EC (mTup as) cl env T fun v => ∃ vs, v = .tup vs ∧ P vs := fun a b U p => by
  obtain ⟨vs, a1, b1, U1, h1, q1, z1⟩ := ha a b U p
  exact ⟨_, a1, b1, U1, by simp only [mTup, bnd, h1], q1, vs, rfl, z1⟩
theorem lcL_C {g : MG} {e : ME} {P : PV → Prop} : ∀ {xs : List PV}, (∀ x ∈ xs, ∃ env1, g x env = some env1 ∧ EC e cl env1 T P) → ∀ a b U, T <+: U → ∃ l a' b' U', lcL cl g tYe e env xs (cup a b U) = .ok l (cup a' b' U') ∧ U <+: U' ∧ l.length = xs.length ∧ ∀ y ∈ l, P y
  | [], _, a, b, U, p => ⟨[], a, b, U, rfl, List.prefix_rfl, rfl, fun y hy => by cases hy⟩
  | x :: xs, h, a, b, U, p => by
    obtain ⟨env1, hg, he⟩ := h x (by simp)
    obtain ⟨v, a1, b1, U1, h1, q1, z1⟩ := he a b U p
    obtain ⟨l, a2, b2, U2, h2, q2, l2, z2⟩ := lcL_C (xs := xs) (fun y hy => h y (by simp [hy])) a1 b1 U1 (p.trans q1)
    refine ⟨v :: l, a2, b2, U2, ?_, q1.trans q2, by rw [List.length_cons, List.length_cons, l2], fun y hy => ?_⟩
    · simp only [lcL, hg, tYe, bndN, h1, h2]
    · rcases List.mem_cons.mp hy with e | e
      · rw [e]; exact z1
      · exact z2 y e
/-- tuple([e for x in range(n)]) -/
theorem ec_tlc {vs : List Nat} {g : MG} {e x : ME} {P : PV → Prop} {n : Nat} (hn : n ≤ 1000) (hi : ∀ a b, E x cl env (cup a b T) (.int (n : Int))) (h : ∀ y ∈ nls (List.range' 0 n), ∃ env1, g y (wipeE env vs) = some env1 ∧ EC e cl env1 T P) : EC (mL bTup (aC (mLc vs g tYe e (iR (aC x aN))) aN)) cl env T fun v => ∃ l, v = .tup l ∧ l.length = n ∧ ∀ y ∈ l, P y := fun a b U p => by
  obtain ⟨V, h1, q1⟩ := i_rng0 (by omega) (hi a b) (cup a b U) (cup_mono p)
  obtain ⟨U1, rfl, r1⟩ := cup_pre q1
  obtain ⟨l, a2, b2, U2, h2, q2, l2, z2⟩ := lcL_C h a b U1 (p.trans r1)
  rw [nls_len, List.length_range'] at l2
  refine ⟨.tup l, a2, b2, U2 ++ [.lst l], ?_, (r1.trans q2).trans (List.prefix_append _ _), l, rfl, l2, z2⟩
  have hl : l.length ≤ 16777216 := by omega
  have hb : bTup [.lst (cup a2 b2 U2).length] (cup a2 b2 U2 ++ [.lst l]) = some (.tup l, cup a2 b2 U2 ++ [.lst l]) := bTup_c cell_end
  simp only [mL, aC, aN, mLc, bnd, h1, h2, bndN, if_pos hl, hb, ofO]
  rfl
end
theorem list_frp : ∀ {l : List PV}, (∀ y ∈ l, ∃ p, y = frp p ∧ Fr 3 p) → ∃ r : FL, l = r.map frp ∧ ∀ p ∈ r, Fr 3 p
  | [], _ => ⟨[], rfl, fun p h => by cases h⟩
  | y :: l, h => by
    obtain ⟨p, rfl, hp⟩ := h y (by simp)
    obtain ⟨r, rfl, hr⟩ := list_frp (l := l) fun z hz => h z (by simp [hz])
    refine ⟨p :: r, rfl, fun q hq => ?_⟩
    rcases List.mem_cons.mp hq with e | e
    · rw [e]; exact hp
    · exact hr q e
theorem list_pol {n : Nat} : ∀ {l : List PV}, (∀ y ∈ l, ∃ r : FL, y = pol r ∧ r.length = n ∧ ∀ p ∈ r, Fr 3 p) → ∃ rs : List FL, l = rs.map pol ∧ ∀ r ∈ rs, r.length = n ∧ ∀ p ∈ r, Fr 3 p
  | [], _ => ⟨[], rfl, fun p h => by cases h⟩
  | y :: l, h => by
    obtain ⟨p, rfl, hp⟩ := h y (by simp)
    obtain ⟨r, rfl, hr⟩ := list_pol (l := l) fun z hz => h z (by simp [hz])
    refine ⟨p :: r, rfl, fun q hq => ?_⟩
    rcases List.mem_cons.mp hq with e | e
    · rw [e]; exact hp
    · exact hr q e
theorem spec27g (k : Nat) (a b : Int) (T : Sto) {i : Nat} {xs : List PV} (hc : cellL T i = some xs) (h0 : xs ≠ []) (hl : xs.length ≤ 1000) (hb : ∀ x ∈ xs, ∀ n, below n x = true) :
    ∃ r a' b', (semT tb (k + 2)).c 27 [.lst 0, .lst (i + 1)] (cup a b T) = .ok r (cup a' b' T) ∧ r ∈ xs := by
  rw [e27]
  have hp : 0 < xs.length := List.length_pos_iff.mpr h0
  obtain ⟨r, a', b', h1, h2, h3⟩ := spec26 k a b (xs.length : Int) T (by omega) (by rw [Int.natAbs_natCast]; exact Nat.lt_of_le_of_lt hl (by decide))
  obtain ⟨j, rfl⟩ : ∃ j : Nat, r = (j : Int) := ⟨r.toNat, by omega⟩
  have hj : j < xs.length := by omega
  have bl := bLen_cell (S := cup a b T) (i := i + 1) (xs := xs) hc
  have ix : oIx (.lst (i + 1)) (.int (j : Int)) (cup a' b' T) = some (xs[j], cup a' b' T) := by
    show (match (cellL (cup a' b' T) (i + 1)).map fun xs => (false, xs) with | some (_, xs) => (match L2.atI xs (j : Int) with | some v => some (v, cup a' b' T) | none => none) | none => none) = _
    rw [cell_cup, hc]
    show (match L2.atI xs (j : Int) with | some v => some (v, cup a' b' T) | none => none) = _
    rw [atI_nat, List.getElem?_eq_getElem hj]
  refine ⟨xs[j], a', b', ?_, List.getElem_mem hj⟩
  simp only [bd27, sQ, sR, m2, mCall, mL, aC, aN, mV, bnd, bndS, List.getElem?_cons_zero, List.getElem?_cons_succ, bl, ofO, h1, ix, outR]
  show (match below (cup a b T).length xs[j] with | true => _ | false => _) = _
  rw [hb _ (List.getElem_mem hj)]
  show Res.ok _ (List.take _ _) = _
  rw [cup_take]
theorem fin_cup {x y a b : Int} {T U : Sto} {v : PV} (p : T <+: U) (h : ∀ n, below n v = true) : fin (cup x y T).length (.ok v (cup a b U)) = .ok v (cup a b T) := by
  obtain ⟨X, rfl⟩ := p
  unfold fin
  dsimp only
  rw [h]
  show Res.ok v (List.take (T.length + 1) (Cell.lst [.int a, .int b] :: (T ++ X))) = _
  rw [List.take_succ_cons, List.take_left' rfl]
  rfl
def DL : FL := [(0, 1), (0, 1), (1, 1), (1, 2), (-1, 2), (1, 3), (2, 3), (-1, 1), (1, 4), (3, 2)]
theorem DL_fr : ∀ p ∈ DL, Fr 3 p := fun p hp => by
  unfold DL at hp
  simp only [List.mem_cons, List.not_mem_nil, or_false] at hp
  rcases hp with e | e | e | e | e | e | e | e | e | e <;> subst e <;> exact ⟨⟨by decide, by decide⟩, by decide, by decide⟩
def dl31 : ME := mLst (aC (mTup (aC (mC (.int (0))) (aC (mC (.int (1))) aN))) (aC (mTup (aC (mC (.int (0))) (aC (mC (.int (1))) aN))) (aC (mTup (aC (mC (.int (1))) (aC (mC (.int (1))) aN))) (aC (mTup (aC (mC (.int (1))) (aC (mC (.int (2))) aN))) (aC (mTup (aC (m1 opNeg (mC (.int (1)))) (aC (mC (.int (2))) aN))) (aC (mTup (aC (mC (.int (1))) (aC (mC (.int (3))) aN))) (aC (mTup (aC (mC (.int (2))) (aC (mC (.int (3))) aN))) (aC (mTup (aC (m1 opNeg (mC (.int (1)))) (aC (mC (.int (1))) aN))) (aC (mTup (aC (mC (.int (1))) (aC (mC (.int (4))) aN))) (aC (mTup (aC (mC (.int (3))) (aC (mC (.int (2))) aN))) aN))))))))))
theorem spec31 (k : Nat) (a b : Int) (T : Sto) : ∃ v a' b', (semT tb (k + 3)).c 31 [.lst 0] (cup a b T) = .ok v (cup a' b' T) ∧ ∃ p, v = frp p ∧ Fr 3 p := by
  rw [e31]
  obtain ⟨r, a', b', h1, h2⟩ := spec27g k a b (T ++ [.lst (DL.map frp)]) (i := T.length) (xs := DL.map frp) cell_end (by decide) (by decide) (fun x hx n => by
    obtain ⟨p, _, rfl⟩ := List.mem_map.mp hx
    exact below_frp)
  obtain ⟨p, hp, rfl⟩ := List.mem_map.mp h2
  refine ⟨frp p, a', b', ?_, p, rfl, DL_fr p hp⟩
  have hd : ∀ cl env S, dl31 cl env S = .ok (.lst S.length) (S ++ [.lst (DL.map frp)]) := fun cl env S => rfl
  have h1 : (semT tb (k + 2)).c 27 [.lst 0, .lst (cup a b T).length] (cup a b T ++ [.lst (DL.map frp)]) = .ok (frp p) (cup a' b' (T ++ [.lst (DL.map frp)])) := h1
  have f : bd31 ⟨(semT tb (k + 2)).c, (semT tb (k + 2)).l, fun _ => .err⟩ [.pv (.lst 0)] (cup a b T) = .rt (frp p) (cup a' b' (T ++ [.lst (DL.map frp)])) := by
    show sQ (sR (mCall 27 (aC (mV 0) (aC dl31 aN)))) sN _ _ _ = _
    simp only [sQ, sR, mCall, aC, aN, mV, bnd, bndS, List.getElem?_cons_zero, hd, h1]
  rw [f]
  exact fin_cup (List.prefix_append _ _) fun n => below_frp
theorem spec32 (k : Nat) (a b : Int) (T : Sto) {n : Nat} (h1 : 1 ≤ n) (h6 : n ≤ 6) : ∃ v a' b', (semT tb (k + 4)).c 32 [.lst 0, .int (n : Int)] (cup a b T) = .ok v (cup a' b' T) ∧ ∃ R, v = rul R ∧ WR R n := by
  rw [e32]
  have row : ∀ (s2 s4 : Slot), EC (mL bTup (aC (mLc [3, 5] (gV 5) tYe (mCall 31 (aC (mV 0) aN)) (iR (aC (mV 1) aN))) aN)) ⟨(semT tb (k + 3)).c, (semT tb (k + 3)).l, fun _ => .err⟩ [.pv (.lst 0), .pv (.int (n : Int)), s2, .un, s4, .un] T fun v => ∃ r : FL, v = pol r ∧ r.length = n ∧ ∀ p ∈ r, Fr 3 p := fun s2 s4 => by
    refine EC.imp (ec_tlc (n := n) (P := fun y => ∃ p, y = frp p ∧ Fr 3 p) (by omega) (fun a b => e_v rfl) fun y hy => ⟨_, rfl, ec_call (P := fun vs => vs = [.lst 0]) ?_ fun vs e a b U => ?_⟩) ?_
    · refine fun a b U p => ⟨[.lst 0], a, b, U, rfl, List.prefix_rfl, rfl⟩
    · rw [e]
      exact spec31 k a b U
    · rintro v ⟨l, rfl, hl, hp⟩
      obtain ⟨r, rfl, hr⟩ := list_frp hp
      rw [List.length_map] at hl
      exact ⟨r, rfl, hl, hr⟩
  have rows : EC (mL bTup (aC (mLc [3, 4] (gV 4) tYe (mL bTup (aC (mLc [3, 5] (gV 5) tYe (mCall 31 (aC (mV 0) aN)) (iR (aC (mV 1) aN))) aN)) (iR (aC (mV 1) aN))) aN)) ⟨(semT tb (k + 3)).c, (semT tb (k + 3)).l, fun _ => .err⟩ [.pv (.lst 0), .pv (.int (n : Int)), .un, .un, .un, .un] T fun v => ∃ rs : List FL, v = .tup (rs.map pol) ∧ rs.length = n ∧ ∀ r ∈ rs, r.length = n ∧ ∀ p ∈ r, Fr 3 p := by
    refine EC.imp (ec_tlc (n := n) (P := fun y => ∃ r : FL, y = pol r ∧ r.length = n ∧ ∀ p ∈ r, Fr 3 p) (by omega) (fun a b => e_v rfl) fun y hy => ⟨_, rfl, row .un _⟩) ?_
    rintro v ⟨l, rfl, hl, hp⟩
    obtain ⟨rs, rfl, hr⟩ := list_pol hp
    rw [List.length_map] at hl
    exact ⟨rs, rfl, hl, hr⟩
  obtain ⟨v1, a1, b1, U1, q1, p1, rs, rfl, l1, f1⟩ := rows a b T List.prefix_rfl
  obtain ⟨v2, a2, b2, U2, q2, p2, r, rfl, l2, f2⟩ := row (.pv (.tup (rs.map pol))) .un a1 b1 U1 p1
  refine ⟨rul (rs, r), a2, b2, ?_, (rs, r), rfl, ⟨l1, fun r hr => (f1 r hr).1, l2, h1, h6, fun r hr => (f1 r hr).2, f2⟩⟩
  have f : bd32 ⟨(semT tb (k + 3)).c, (semT tb (k + 3)).l, fun _ => .err⟩ [.pv (.lst 0), .pv (.int (n : Int)), .un, .un, .un, .un] (cup a b T) = .rt (rul (rs, r)) (cup a2 b2 U2) := by
    have s1 : sS 2 (mL bTup (aC (mLc [3, 4] (gV 4) tYe (mL bTup (aC (mLc [3, 5] (gV 5) tYe (mCall 31 (aC (mV 0) aN)) (iR (aC (mV 1) aN))) aN)) (iR (aC (mV 1) aN))) aN)) ⟨(semT tb (k + 3)).c, (semT tb (k + 3)).l, fun _ => .err⟩ [.pv (.lst 0), .pv (.int (n : Int)), .un, .un, .un, .un] (cup a b T) = .nx [.pv (.lst 0), .pv (.int (n : Int)), .pv (.tup (rs.map pol)), .un, .un, .un] (cup a1 b1 U1) := by
      unfold sS bndS
      rw [q1]
      rfl
    have s2 : sR (mTup (aC (mV 2) (aC (mL bTup (aC (mLc [3, 5] (gV 5) tYe (mCall 31 (aC (mV 0) aN)) (iR (aC (mV 1) aN))) aN)) aN))) ⟨(semT tb (k + 3)).c, (semT tb (k + 3)).l, fun _ => .err⟩ [.pv (.lst 0), .pv (.int (n : Int)), .pv (.tup (rs.map pol)), .un, .un, .un] (cup a1 b1 U1) = .rt (rul (rs, r)) (cup a2 b2 U2) := by
      unfold sR mTup
      simp only [aC, aN, bnd, bndS, mV, List.getElem?_cons_zero, List.getElem?_cons_succ]
      rw [q2]
      rfl
    exact (nx_q s1).trans (q_rt s2)
  rw [f]
  exact fin_cup (p1.trans p2) fun n => below_rul
end Lk

set_option Elab.async false
set_option linter.all false
set_option maxRecDepth 100000
set_option maxHeartbeats 0
namespace Lk
open PySem PySem.Spec PyProof.Rows L2 Mi
/-! ### joined rules are parted where they were, and between -/
theorem join_row {A B : RU} {n b a : Nat} {r : FL} (wA : WR A n) (wB : WR B b) (h : (joinR A B).1[a]? = some r) : (a < n ∧ ∃ r0, A.1[a]? = some r0 ∧ r = r0 ++ List.replicate B.2.length z01) ∨ (n ≤ a ∧ ∃ r0, B.1[a - n]? = some r0 ∧ r = A.2 ++ r0) := by
  have h : (A.1.map (fun r => r ++ List.replicate B.2.length z01) ++ B.1.map (fun r => A.2 ++ r))[a]? = some r := h
  have a1 := wA.l1
  rw [List.getElem?_append] at h
  by_cases c : a < n
  · rw [if_pos (by rw [List.length_map]; omega), List.getElem?_map] at h
    cases e : A.1[a]? with
    | none => rw [e] at h; cases h
    | some r0 =>
      rw [e] at h
      exact .inl ⟨c, r0, rfl, (Option.some.inj h).symm⟩
  · rw [if_neg (by rw [List.length_map]; omega), List.getElem?_map, List.length_map, a1] at h
    cases e : B.1[a - n]? with
    | none => rw [e] at h; cases h
    | some r0 =>
      rw [e] at h
      exact .inr ⟨by omega, r0, rfl, (Option.some.inj h).symm⟩
theorem app_lt {α : Type} {l m : List α} {s : Nat} (h : s < l.length) : (l ++ m)[s]? = l[s]? := List.getElem?_append_left h
theorem rep_at {l : FL} {m s : Nat} {p : Int × Int} (h : l.length ≤ s) (e : (l ++ List.replicate m z01)[s]? = some p) : p = z01 := by
  rw [List.getElem?_append_right h, List.getElem?_replicate] at e
  split at e
  · exact (Option.some.inj e).symm
  · cases e
theorem join_new {A B : RU} {n b : Nat} (wA : WR A n) (wB : WR B b) : PartedP (joinR A B) n := by
  have a3 := wA.l3
  refine ⟨fun a r s p ha hp h1 h2 => ?_, fun a r s p q ha hp hq h1 h2 => ?_⟩
  · rcases join_row wA wB ha with ⟨_, r0, hr, rfl⟩ | ⟨c, _⟩
    · have rl := wA.l2 r0 (List.mem_of_getElem? hr)
      rw [rep_at (by omega) hp]
      rfl
    · omega
  · rcases join_row wA wB ha with ⟨c, _⟩ | ⟨_, r0, hr, rfl⟩
    · omega
    · have hq : (A.2 ++ B.2)[s]? = some q := hq
      rw [app_lt (by omega)] at hp hq
      rw [hp] at hq
      exact Option.some.inj hq
theorem join_old {A B : RU} {n b m : Nat} (wA : WR A n) (wB : WR B b) (hm : m ≤ n) (h : PartedP A m) : PartedP (joinR A B) m := by
  have a3 := wA.l3
  refine ⟨fun a r s p ha hp h1 h2 => ?_, fun a r s p q ha hp hq h1 h2 => ?_⟩
  · rcases join_row wA wB ha with ⟨_, r0, hr, rfl⟩ | ⟨c, _⟩
    · have rl := wA.l2 r0 (List.mem_of_getElem? hr)
      by_cases c : s < n
      · rw [app_lt (by omega)] at hp
        exact h.1 a r0 s p hr hp h1 h2
      · rw [rep_at (by omega) hp]
        rfl
    · omega
  · have hq : (A.2 ++ B.2)[s]? = some q := hq
    rw [app_lt (by omega)] at hq
    rcases join_row wA wB ha with ⟨_, r0, hr, rfl⟩ | ⟨_, r0, hr, rfl⟩
    · have rl := wA.l2 r0 (List.mem_of_getElem? hr)
      rw [app_lt (by omega)] at hp
      exact h.2 a r0 s p q hr hp hq h1 h2
    · rw [app_lt (by omega)] at hp
      rw [hp] at hq
      exact Option.some.inj hq
/-! ### a comprehension over a list -/
section
variable {cl : Cl} {env : Mi.Env} {S : Sto}
theorem nth_lvC {T : Sto} {a i : Nat} {xs : List PV} (ha : cellL T a = some xs) : nthS (.lv a) i T = some xs[i]? := by
  show (cellL T a).map _ = _
  rw [ha]
  rfl
theorem lcN_lv {g : MG} {t : MB} {e : ME} {p : PV → Bool} {f : PV → PV} {a : Nat} {xs : List PV} (ha : cellL S a = some xs) (h : ∀ x ∈ xs, ∃ env1, g x env = some env1 ∧ EB t cl env1 S (p x) ∧ (p x = true → E e cl env1 S (f x))) :
    ∀ m i T, S <+: T → i + m = xs.length → ∃ T', lcN cl g t e (.lv a) env (m + 1) i T = .ok (((xs.drop i).filter p).map f) T' ∧ T <+: T'
  | 0, i, T, q, hm => by
    refine ⟨T, ?_, List.prefix_rfl⟩
    rw [lcN, nth_lvC (cell_pre ha q), List.getElem?_eq_none (by omega), List.drop_of_length_le (by omega)]
    rfl
  | m + 1, i, T, q, hm => by
    have hi : i < xs.length := by omega
    obtain ⟨env1, hg, ht, he⟩ := h xs[i] (List.getElem_mem hi)
    obtain ⟨T1, h1, p1⟩ := ht T q
    rw [lcN, nth_lvC (cell_pre ha q), List.getElem?_eq_getElem hi, List.drop_eq_getElem_cons hi]
    cases hp : p xs[i] with
    | false =>
      rw [hp] at h1
      obtain ⟨T2, h2, p2⟩ := lcN_lv ha h m (i + 1) T1 (q.trans p1) (by omega)
      refine ⟨T2, ?_, p1.trans p2⟩
      simp only [hg, bndN, h1, h2, List.filter_cons, hp, Bool.false_eq_true, if_false]
    | true =>
      rw [hp] at h1
      obtain ⟨T2, h2, p2⟩ := he hp T1 (q.trans p1)
      obtain ⟨T3, h3, p3⟩ := lcN_lv ha h m (i + 1) T2 ((q.trans p1).trans p2) (by omega)
      refine ⟨T3, ?_, (p1.trans p2).trans p3⟩
      simp only [hg, bndN, h1, h2, h3, List.filter_cons, hp, if_true, List.map_cons]
theorem el_ll {vs : List Nat} {g : MG} {t : MB} {e m : ME} {p : PV → Bool} {f : PV → PV} {xs : List PV} (hm : EL m cl env S xs) (h : ∀ x ∈ xs, ∃ env1, g x (wipeE env vs) = some env1 ∧ EB t cl env1 S (p x) ∧ (p x = true → E e cl env1 S (f x))) (hl : xs.length ≤ 16777216) : EL (mLc vs g t e (iA m)) cl env S ((xs.filter p).map f) := fun T q => by
  obtain ⟨T1, i, h1, p1, c1⟩ := hm T q
  obtain ⟨T2, h2, p2⟩ := lcN_lv (S := T1) (cl := cl) (g := g) (t := t) (e := e) (p := p) (f := f) (env := wipeE env vs) c1 (fun x hx => by
    obtain ⟨env1, a, b, c⟩ := h x hx
    exact ⟨env1, a, fun U r => b U ((q.trans p1).trans r), fun z => (c z).up (q.trans p1)⟩) xs.length 0 T1 List.prefix_rfl (by omega)
  have hi : iA m cl env T = .ok (.lv i) T1 := by
    simp only [iA, bnd, h1, srcP]
  have ln : lenS (.lv i) T1 = xs.length := by
    show (match cellL T1 i with | some xs => xs.length | none => 0) = _
    rw [c1]
  have hl2 : ((xs.filter p).map f).length ≤ 16777216 := by
    rw [List.length_map]
    exact Nat.le_trans (List.length_filter_le _ _) hl
  refine ⟨T2 ++ [.lst ((xs.filter p).map f)], T2.length, ?_, pre_new (p1.trans p2), cell_end⟩
  unfold mLc bnd
  rw [hi]
  dsimp only
  rw [ln, h2]
  simp only [bndN, List.drop_zero, if_pos hl2]
end
theorem cNi_tup {T : Sto} {m : Nat} {l : List Nat} : cNi (.int (m : Int)) (.tup (nls l)) T = some (.bl (!decide (m ∈ l)), T) := by
  have h1 : okD T 62 (.int (m : Int)) = true := rfl
  have h2 : (nls l).all (okD T 62) = true := by
    rw [List.all_eq_true]
    intro x hx
    obtain ⟨a, _, rfl⟩ := List.mem_map.mp hx
    rfl
  have h3 : ((nls l).any fun y => eqD T 62 y (.int (m : Int))) = decide (m ∈ l) := by
    unfold nls
    rw [List.any_map, Bool.eq_iff_iff, List.any_eq_true, decide_eq_true_eq]
    constructor
    · rintro ⟨a, ha, e⟩
      have e : decide ((a : Int) = (m : Int)) = true := e
      have := of_decide_eq_true e
      have : a = m := by omega
      rw [← this]; exact ha
    · intro h
      exact ⟨m, h, decide_eq_true rfl⟩
  simp only [cNi, seqD, h1, h2, h3, Bool.and_self, if_true]
/-! ### one thing changed -/
def putN {α : Type} (s : Nat) (x : α) (l : List α) : List α := l.take s ++ [x] ++ l.drop (s + 1)
theorem put_len {α : Type} {s : Nat} {x : α} {l : List α} (h : s < l.length) : (putN s x l).length = l.length := by
  unfold putN
  simp only [List.length_append, List.length_take, List.length_drop, List.length_singleton]
  omega
theorem put_mem {α : Type} {s : Nat} {x y : α} {l : List α} (h : y ∈ putN s x l) : y = x ∨ y ∈ l := by
  unfold putN at h
  rcases List.mem_append.mp h with h | h
  · rcases List.mem_append.mp h with h | h
    · exact .inr (List.mem_of_mem_take h)
    · exact .inl (List.mem_singleton.mp h)
  · exact .inr (List.mem_of_mem_drop h)
theorem put_map {α β : Type} {f : α → β} {s : Nat} {x : α} {l : List α} : (putN s x l).map f = putN s (f x) (l.map f) := by
  unfold putN
  simp only [List.map_append, List.map_take, List.map_drop, List.map_cons, List.map_nil]
/-- l[:s] + (x,) + l[s + 1:] -/
theorem e_put {cl : Cl} {env : Mi.Env} {S : Sto} {a b c : ME} {s : Nat} {x : PV} {xs : List PV} (ha : E a cl env S (.tup xs)) (hs : E b cl env S (.int (s : Int))) (hx : E c cl env S x) (hl : s < xs.length) (h : xs.length ≤ 100000) : E (m2 opAdd (m2 opAdd (mSl a none (some b)) (mTup (aC c aN))) (mSl a (some (m2 opAdd b (mC (.int (1))))) none)) cl env S (.tup (putN s x xs)) := by
  refine e_2 (v := .tup (xs.take s ++ [x])) (w := .tup (xs.drop (s + 1))) (e_2 (v := .tup (xs.take s)) (w := .tup [x]) ((e_sl (l := none) (h := some (s : Int)) ha trivial hs).cast (by rw [cutP_takeA])) (e_tup (ea_c hx ea_n)) fun T => opAdd_tup (by simp only [List.length_take, List.length_singleton]; omega)) ((e_sl (l := some ((s + 1 : Nat) : Int)) (h := none) ha (e_2 hs e_c fun T => rfl) trivial).cast (by rw [cutP_drop])) fun T => ?_
  rw [opAdd_tup (by simp only [List.length_append, List.length_take, List.length_drop, List.length_singleton]; omega)]
  rfl
theorem put_wr1 {R : RU} {n a s : Nat} {p : Int × Int} {r : FL} (w : WR R n) (ha : a < n) (hs : s < n) (hr : R.1[a]? = some r) (hp : Fr 3 p) : WR (putN a (putN s p r) R.1, R.2) n := by
  have l1 := w.l1
  have rl := w.l2 r (List.mem_of_getElem? hr)
  refine ⟨by rw [put_len (by omega)]; exact l1, fun q hq => ?_, w.l3, w.h1, w.h6, fun q hq x hx => ?_, w.g⟩
  · rcases put_mem hq with e | h
    · rw [e, put_len (by omega)]; exact rl
    · exact w.l2 q h
  · rcases put_mem hq with e | h
    · rw [e] at hx
      rcases put_mem hx with e | h
      · rw [e]; exact hp
      · exact w.f r (List.mem_of_getElem? hr) x h
    · exact w.f q h x hx
theorem put_wr2 {R : RU} {n s : Nat} {p : Int × Int} (w : WR R n) (hs : s < n) (hp : Fr 3 p) : WR (R.1, putN s p R.2) n := by
  have l3 := w.l3
  refine ⟨w.l1, w.l2, by rw [put_len (by omega)]; exact l3, w.h1, w.h6, w.f, fun x hx => ?_⟩
  rcases put_mem hx with e | h
  · rw [e]; exact hp
  · exact w.g x h
end Lk

set_option Elab.async false
set_option linter.all false
set_option maxRecDepth 100000
set_option maxHeartbeats 0
namespace Lk
open PySem PySem.Spec PyProof.Rows L2 Mi
theorem cell_cup' {a b : Int} {U : Sto} {i : Nat} : cellL (cup a b U) (i + 1) = cellL U i := rfl
theorem cup_set {a b : Int} {U : Sto} {i : Nat} {c : Cell} : (cup a b U).set (i + 1) c = cup a b (U.set i c) := rfl
/-- 1 + a draw, as a number of stages -/
theorem stages (k : Nat) {m : Nat} {env : Mi.Env} {T : Sto} (h0 : env[0]? = some (.pv (.lst 0))) (hm : 1 ≤ m) (h9 : m ≤ 90) : EC (m2 opAdd (mC (.int (1))) (mCall 26 (aC (mV 0) (aC (mC (.int (m : Int))) aN)))) ⟨(semT tb (k + 1)).c, (semT tb (k + 1)).l, fun _ => .err⟩ env T fun v => ∃ n : Nat, v = .int (n : Int) ∧ 1 ≤ n ∧ n ≤ m := by
  refine ec_2 (P := (· = .int 1)) (Q := fun v => ∃ r : Nat, v = .int (r : Int) ∧ r < m) (ec_of fun a b => e_c) (ec_call (P := fun vs => vs = [.lst 0, .int (m : Int)]) (fun a b U p => ?_) fun vs e a b U => ?_) fun v w e h => ?_
  · refine ⟨_, a, b, U, ?_, List.prefix_rfl, rfl⟩
    simp only [aC, aN, mV, mC, bnd, h0]
  · subst e
    obtain ⟨r, a', b', h1, h2, h3⟩ := spec26 k a b (m : Int) U (by omega) (by rw [Int.natAbs_natCast]; exact Nat.lt_of_le_of_lt h9 (by decide))
    exact ⟨_, a', b', h1, r.toNat, by rw [Int.toNat_of_nonneg h2], by omega⟩
  · subst e
    obtain ⟨r, rfl, hr⟩ := h
    exact ⟨.int ((1 + r : Nat) : Int), fun T => rfl, 1 + r, rfl, by omega, by omega⟩
/-- a drawn rule of 1 + a draw stages -/
theorem ruleE (k : Nat) {m : Nat} {env : Mi.Env} {T : Sto} (h0 : env[0]? = some (.pv (.lst 0))) (hm : 1 ≤ m) (h6 : m ≤ 6) : EC (mCall 32 (aC (mV 0) (aC (m2 opAdd (mC (.int (1))) (mCall 26 (aC (mV 0) (aC (mC (.int (m : Int))) aN)))) aN))) ⟨(semT tb (k + 4)).c, (semT tb (k + 4)).l, fun _ => .err⟩ env T fun v => ∃ R n, v = rul R ∧ WR R n ∧ n ≤ m := by
  refine ec_call (P := fun vs => ∃ n : Nat, vs = [.lst 0, .int (n : Int)] ∧ 1 ≤ n ∧ n ≤ m) (fun a b U p => ?_) fun vs e a b U => ?_
  · obtain ⟨v, a', b', U', h1, q, n, rfl, n1, n2⟩ := stages (k + 3) (T := T) h0 hm (by omega) a b U p
    refine ⟨_, a', b', U', ?_, q, n, rfl, n1, n2⟩
    simp only [aC, aN, mV, bnd, h0, h1]
  · obtain ⟨n, rfl, n1, n2⟩ := e
    obtain ⟨v, a', b', h1, R, rfl, w⟩ := spec32 k a b U n1 (by omega)
    exact ⟨_, a', b', h1, R, n, rfl, w, n2⟩
def lb37 : MS := sQ (sX (mMt 1 mApp (mV 2) (aC (mL bLen (aC (m2 oIx (mV 1) (mC (.int (1)))) aN)) aN)))
    (sQ (sS 1 (mCall 33 (aC (mV 1) (aC (mCall 32 (aC (mV 0) (aC (m2 opAdd (mC (.int (1))) (mCall 26 (aC (mV 0) (aC (mC (.int (2))) aN)))) aN))) aN))))
    sN)
structure P37 (T : Sto) (i : Nat) (env : Mi.Env) (V : Sto) : Prop where
  ex : ∃ R n a b U j ps s3, env = [.pv (.lst 0), .pv (rul R), .pv (.lst (j + 1)), s3, .un, .un, .un, .un, .un, .un, .un, .un, .un] ∧ V = cup a b U ∧ T <+: U ∧ T.length ≤ j ∧ cellL U j = some (nls ps) ∧ WR R n ∧ n ≤ 2 * (i + 1) ∧ ps.length ≤ i ∧ ∀ p ∈ ps, p ∈ placesN R n
theorem e_lenF {cl : Cl} {env : Mi.Env} {S : Sto} {R : RU} {n i : Nat} (w : WR R n) (h : env[i]? = some (.pv (rul R))) : E (mL bLen (aC (m2 oIx (mV i) (mC (.int (1)))) aN)) cl env S (.int (n : Int)) :=
  e_L (ea_c (v := pol R.2) (e_2 (e_v h) e_c fun T => rfl) ea_n) fun T => by rw [bLen_pol, w.l3]
theorem s_call2 {cl : Cl} {i j a : Nat} {m : ME} {env : Mi.Env} {S S1 S2 : Sto} {v w r : PV} (ha : env[a]? = some (.pv v)) (h : m cl env S = .ok w S1) (hc : cl.call j [v, w] S1 = .ok r S2) : sS i (mCall j (aC (mV a) (aC m aN))) cl env S = .nx (env.set i (.pv r)) S2 := by
  simp only [sS, mCall, aC, aN, mV, bnd, bndS, ha, h, hc]
theorem turn37 (k : Nat) {T V : Sto} {i : Nat} {env : Mi.Env} {x : PV} (h : P37 T i env V) (hi : i < 2) : ∃ e V2, lb37 ⟨(semT tb (k + 4)).c, (semT tb (k + 4)).l, fun _ => .err⟩ (env.set 3 (.pv x)) V = .nx e V2 ∧ P37 T (i + 1) e V2 := by
  obtain ⟨R, n, a, b, U, j, ps, s3, rfl, rfl, pT, hj, hc, w, hn, hl, hps⟩ := h.ex
  obtain ⟨V1, q1, p1⟩ := x_app (cl := ⟨(semT tb (k + 4)).c, (semT tb (k + 4)).l, fun _ => .err⟩) (env := [.pv (.lst 0), .pv (rul R), .pv (.lst (j + 1)), .pv x, .un, .un, .un, .un, .un, .un, .un, .un, .un]) (S := cup a b U) (i := 2) (m := mL bLen (aC (m2 oIx (mV 1) (mC (.int (1)))) aN)) (v := .int (n : Int)) (xs := nls ps) (j := j + 1) rfl hc (e_lenF w rfl) (by rw [nls_len]; omega) rfl
  obtain ⟨U1, rfl, r1⟩ := cup_pre p1
  rw [cup_set] at q1
  have hc1 := cell_pre hc r1
  have c2 : cellL (U1.set j (.lst (nls ps ++ [.int (n : Int)]))) j = some (nls (ps ++ [n])) := by
    rw [cell_set hc1, nls_app]
    rfl
  have pT2 : T <+: U1.set j (.lst (nls ps ++ [.int (n : Int)])) := pre_set (pT.trans r1) hj
  obtain ⟨v, a3, b3, U3, h3, r3, B, m, rfl, wB, hm⟩ := ruleE k (m := 2) (env := [.pv (.lst 0), .pv (rul R), .pv (.lst (j + 1)), .pv x, .un, .un, .un, .un, .un, .un, .un, .un, .un]) (T := T) rfl (by omega) (by omega) a b _ pT2
  have w' := join_wr w wB (by omega)
  have s33 := fun S => spec33j (k + 3) S w wB
  have q2 : sS 1 (mCall 33 (aC (mV 1) (aC (mCall 32 (aC (mV 0) (aC (m2 opAdd (mC (.int (1))) (mCall 26 (aC (mV 0) (aC (mC (.int (2))) aN)))) aN))) aN))) ⟨(semT tb (k + 4)).c, (semT tb (k + 4)).l, fun _ => .err⟩ [.pv (.lst 0), .pv (rul R), .pv (.lst (j + 1)), .pv x, .un, .un, .un, .un, .un, .un, .un, .un, .un] (cup a b (U1.set j (.lst (nls ps ++ [.int (n : Int)])))) = .nx [.pv (.lst 0), .pv (rul (joinR R B)), .pv (.lst (j + 1)), .pv x, .un, .un, .un, .un, .un, .un, .un, .un, .un] (cup a3 b3 U3) := s_call2 rfl h3 (s33 _)
  refine ⟨_, _, (nx_q q1).trans (nx_q q2), ⟨joinR R B, n + m, a3, b3, U3, j, ps ++ [n], .pv x, rfl, rfl, pT2.trans r3, hj, cell_pre c2 r3, w', by omega, by rw [List.length_append, List.length_singleton]; omega, fun p hp => ?_⟩⟩
  have n1 := w.h1
  have m1 := wB.h1
  rcases List.mem_append.mp hp with h | h
  · obtain ⟨x1, x2, x3⟩ := places_in.mp (hps p h)
    exact places_in.mpr ⟨x1, by omega, (parted_iff w').mpr (join_old w wB (by omega) ((parted_iff w).mp x3))⟩
  · rw [List.mem_singleton.mp h]
    exact places_in.mpr ⟨n1, by omega, (parted_iff w').mpr (join_new w wB)⟩
end Lk

set_option Elab.async false
set_option linter.all false
set_option maxRecDepth 100000
set_option maxHeartbeats 0
namespace Lk
open PySem PySem.Spec PyProof.Rows L2 Mi
theorem loop37 (k : Nat) {T : Sto} : ∀ (xs : List PV) (i : Nat) (env : Mi.Env) (V : Sto), P37 T i env V → i + xs.length ≤ 2 → ∃ e V2, forL ⟨(semT tb (k + 4)).c, (semT tb (k + 4)).l, fun _ => .err⟩ (gV 3) lb37 xs env V = .nx e V2 ∧ P37 T (i + xs.length) e V2
  | [], i, env, V, h, _ => ⟨env, V, rfl, h⟩
  | x :: xs, i, env, V, h, hl => by
    rw [List.length_cons] at hl
    obtain ⟨e, V2, q, h2⟩ := turn37 k (x := x) h (by omega)
    obtain ⟨e3, V3, q3, h3⟩ := loop37 k xs (i + 1) e V2 h2 (by omega)
    refine ⟨e3, V3, ?_, by rw [List.length_cons, show i + (xs.length + 1) = i + 1 + xs.length by omega]; exact h3⟩
    rw [forL]
    simp only [gV]
    rw [q]
    exact q3
theorem s_tup2 {cl : Cl} {m : ME} {env env2 : Mi.Env} {S S1 : Sto} {v : PV} (h : m cl env S = .ok v S1) (hg : gT (gC (gV 1) (gC (gV 2) gN)) (.tup [v, .lst S1.length]) env = some env2) : sG (gT (gC (gV 1) (gC (gV 2) gN))) (mTup (aC m (aC (mLst aN) aN))) cl env S = .nx env2 (S1 ++ [.lst []]) := by
  simp only [sG, mTup, aC, aN, mLst, bnd, bndS, h, hg]
theorem s_p3 {cl : Cl} {i j l : Nat} {m : MA} {env : Mi.Env} {S S1 : Sto} {u v w : PV} (h : m cl env S = .ok [u, v, w] S1) : sP3 i j l m cl env S = .nx (((env.set i (.pv u)).set j (.pv v)).set l (.pv w)) S1 := by
  simp only [sP3, bndS, h]
theorem ec_and {cl : Cl} {env : Mi.Env} {T : Sto} {x y : ME} (hx : EC x cl env T (· = .bl true)) (hy : EC y cl env T (· = .bl true)) : EC (mAn x y) cl env T (· = .bl true) := fun a b U p => by
  obtain ⟨v, a1, b1, U1, h1, q1, rfl⟩ := hx a b U p
  obtain ⟨w, a2, b2, U2, h2, q2, rfl⟩ := hy a1 b1 U1 (p.trans q1)
  exact ⟨_, a2, b2, U2, by simp only [mAn, bnd, h1, truP, h2], q1.trans q2, rfl⟩
theorem roll_v (k : Nat) {env : Mi.Env} {T : Sto} {n i : Nat} (h0 : env[0]? = some (.pv (.lst 0))) (hi : env[i]? = some (.pv (.int (n : Int)))) (hn : 1 ≤ n) (h9 : n ≤ 90) : EC (mCall 26 (aC (mV 0) (aC (mV i) aN))) ⟨(semT tb (k + 1)).c, (semT tb (k + 1)).l, fun _ => .err⟩ env T fun v => ∃ r : Nat, v = .int (r : Int) ∧ r < n := by
  refine ec_call (P := fun vs => vs = [.lst 0, .int (n : Int)]) (fun a b U p => ⟨_, a, b, U, by simp only [aC, aN, mV, bnd, h0, hi], List.prefix_rfl, rfl⟩) fun vs e a b U => ?_
  subst e
  obtain ⟨r, a', b', h1, h2, h3⟩ := spec26 k a b (n : Int) U (by omega) (by rw [Int.natAbs_natCast]; exact Nat.lt_of_le_of_lt h9 (by decide))
  exact ⟨_, a', b', h1, r.toNat, by rw [Int.toNat_of_nonneg h2], by omega⟩
theorem drawE (k : Nat) {env : Mi.Env} {T : Sto} (h0 : env[0]? = some (.pv (.lst 0))) : EC (mCall 31 (aC (mV 0) aN)) ⟨(semT tb (k + 3)).c, (semT tb (k + 3)).l, fun _ => .err⟩ env T fun v => ∃ p, v = frp p ∧ Fr 3 p := by
  refine ec_call (P := fun vs => vs = [.lst 0]) (fun a b U p => ⟨_, a, b, U, by simp only [aC, aN, mV, bnd, h0], List.prefix_rfl, rfl⟩) fun vs e a b U => ?_
  subst e
  exact spec31 k a b U
def i37 : MB := tO (tBl (m2 cNe (mLc [11, 12] (gV 12) (tBl (m2 cNi (mV 12) (mCall 12 (aC (mV 1) aN)))) (mV 12) (iA (mV 2))) (mLst aN))) (tNo (tTru (mCall 36 (aC (mV 1) aN))))
theorem i37_ok (k : Nat) {S : Sto} {R : RU} {n j : Nat} {ps : List Nat} {s3 : Slot} (w : WR R n) (hc : cellL S j = some (nls ps)) (hl : ps.length ≤ 100) (hps : ∀ p ∈ ps, p ∈ placesN R n) : EB i37 ⟨(semT tb (k + 8)).c, (semT tb (k + 8)).l, fun _ => .err⟩ [.pv (.lst 0), .pv (rul R), .pv (.lst j), s3, .un, .un, .un, .un, .un, .un, .un, .un, .un] S false := by
  refine (eb_or (b := false) (c := false) ((eb_bl (e_2b (xs := []) ((el_ll (p := fun _ => false) (f := id) (el_v rfl hc) (fun x hx => ?_) (by rw [nls_len]; omega)).cast ?_) (el_lst ea_n) fun T i j c d => cNe_nilR c d fun x hx => by cases hx)).cast rfl) fun _ => eb_no (b := true) (eb_tru (e_call (ea_c (e_v rfl) ea_n) fun T _ => spec36 k T w))).cast rfl
  · obtain ⟨p, hp, rfl⟩ := List.mem_map.mp hx
    refine ⟨_, rfl, (eb_bl (e_2 (v := .int (p : Int)) (w := .tup (nls (placesN R n))) (e_v rfl) (e_call (ea_c (e_v rfl) ea_n) fun T _ => spec12 (k + 3) T w) fun T => cNi_tup)).cast ?_, fun h => by cases h⟩
    rw [decide_eq_true (hps p hp)]
    rfl
  · rw [List.filter_eq_nil_iff.mpr fun x _ h => by cases h]
    rfl
end Lk

set_option Elab.async false
set_option linter.all false
set_option maxRecDepth 100000
set_option maxHeartbeats 0
namespace Lk
open PySem PySem.Spec PyProof.Rows L2 Mi
def m37a : ME := mCall 32 (aC (mV 0) (aC (m2 opAdd (mC (.int (1))) (mCall 26 (aC (mV 0) (aC (mC (.int (2))) aN)))) aN))
def t37 : MS := sQ (sS 4 (mL bLen (aC (m2 oIx (mV 1) (mC (.int (1)))) aN)))
    (sQ (sP3 5 6 7 (aC (mCall 26 (aC (mV 0) (aC (mV 4) aN))) (aC (mCall 26 (aC (mV 0) (aC (mV 4) aN))) (aC (mCall 31 (aC (mV 0) aN)) aN))))
    (sQ (sS 8 (m2 opAdd (m2 opAdd (mSl (m2 oIx (m2 oIx (mV 1) (mC (.int (0)))) (mV 5)) none (some (mV 6))) (mTup (aC (mV 7) aN))) (mSl (m2 oIx (m2 oIx (mV 1) (mC (.int (0)))) (mV 5)) (some (m2 opAdd (mV 6) (mC (.int (1))))) none)))
    (sQ (sS 9 (mTup (aC (m2 opAdd (m2 opAdd (mSl (m2 oIx (mV 1) (mC (.int (0)))) none (some (mV 5))) (mTup (aC (mV 8) aN))) (mSl (m2 oIx (mV 1) (mC (.int (0)))) (some (m2 opAdd (mV 5) (mC (.int (1))))) none)) (aC (m2 oIx (mV 1) (mC (.int (1)))) aN))))
    (sQ (sS 10 (mTup (aC (m2 oIx (mV 1) (mC (.int (0)))) (aC (m2 opAdd (m2 opAdd (mSl (m2 oIx (mV 1) (mC (.int (1)))) none (some (mV 6))) (mTup (aC (mV 7) aN))) (mSl (m2 oIx (mV 1) (mC (.int (1)))) (some (m2 opAdd (mV 6) (mC (.int (1))))) none)) aN))))
    (sQ (sR (mAn (mCall 36 (aC (mV 9) aN)) (mAn (mCall 36 (aC (mV 10) aN)) (mCall 36 (aC (mCall 32 (aC (mV 0) (aC (m2 opAdd (mC (.int (1))) (mCall 26 (aC (mV 0) (aC (mC (.int (3))) aN)))) aN))) aN)))))
    sN)))))
theorem r_ok {cl : Cl} {env : Mi.Env} {S S1 : Sto} {m : ME} {v : PV} (h : m cl env S = .ok v S1) : sR m cl env S = .rt v S1 := by
  simp only [sR, bndS, h]
theorem nx_sc {cl : Cl} {env : Mi.Env} {a b : Int} {U : Sto} {i : Nat} {m : ME} {v : PV} (h : E m cl env (cup a b U) v) : ∃ U', sS i m cl env (cup a b U) = .nx (env.set i (.pv v)) (cup a b U') ∧ U <+: U' := by
  obtain ⟨T, q, p⟩ := nx_s (i := i) h
  obtain ⟨U', rfl, r⟩ := cup_pre p
  exact ⟨U', q, r⟩
theorem t37_ok (k : Nat) {a b : Int} {U : Sto} {R : RU} {n : Nat} {s2 s3 : Slot} (w : WR R n) : ∃ a' b' U', t37 ⟨(semT tb (k + 8)).c, (semT tb (k + 8)).l, fun _ => .err⟩ [.pv (.lst 0), .pv (rul R), s2, s3, .un, .un, .un, .un, .un, .un, .un, .un, .un] (cup a b U) = .rt (.bl true) (cup a' b' U') ∧ U <+: U' := by
  have n1 := w.h1
  have n6 := w.h6
  have l1 := w.l1
  have l3 := w.l3
  obtain ⟨U1, q1, p1⟩ := nx_sc (cl := ⟨(semT tb (k + 8)).c, (semT tb (k + 8)).l, fun _ => .err⟩) (env := [.pv (.lst 0), .pv (rul R), s2, s3, .un, .un, .un, .un, .un, .un, .un, .un, .un]) (a := a) (b := b) (U := U) (i := 4) (m := mL bLen (aC (m2 oIx (mV 1) (mC (.int (1)))) aN)) (v := .int (n : Int)) (e_lenF w rfl)
  have e3 : EAC (aC (mCall 26 (aC (mV 0) (aC (mV 4) aN))) (aC (mCall 26 (aC (mV 0) (aC (mV 4) aN))) (aC (mCall 31 (aC (mV 0) aN)) aN))) ⟨(semT tb (k + 8)).c, (semT tb (k + 8)).l, fun _ => .err⟩ [.pv (.lst 0), .pv (rul R), s2, s3, .pv (.int (n : Int)), .un, .un, .un, .un, .un, .un, .un, .un] U1 _ := eac_c (roll_v (k + 7) rfl rfl n1 (by omega)) (eac_c (roll_v (k + 7) rfl rfl n1 (by omega)) (eac_c (drawE (k + 5) rfl) eac_n))
  obtain ⟨vs, a2, b2, U2, h2, p2, v1, vs1, rfl, ⟨x, rfl, hx⟩, v2, vs2, rfl, ⟨y, rfl, hy⟩, v3, vs3, rfl, ⟨p, rfl, hp⟩, rfl⟩ := e3 a b U1 List.prefix_rfl
  have q2 := s_p3 (i := 5) (j := 6) (l := 7) h2
  obtain ⟨r, hr⟩ : ∃ r, R.1[x]? = some r := ⟨R.1[x], List.getElem?_eq_getElem (by omega)⟩
  have rl := w.l2 r (List.mem_of_getElem? hr)
  have w1 := put_wr1 w hx hy hr hp
  have w2 := put_wr2 w hy hp
  obtain ⟨U3, q3, p3⟩ := nx_sc (cl := ⟨(semT tb (k + 8)).c, (semT tb (k + 8)).l, fun _ => .err⟩) (env := [.pv (.lst 0), .pv (rul R), s2, s3, .pv (.int (n : Int)), .pv (.int (x : Int)), .pv (.int (y : Int)), .pv (frp p), .un, .un, .un, .un, .un]) (a := a2) (b := b2) (U := U2) (i := 8) (m := m2 opAdd (m2 opAdd (mSl (m2 oIx (m2 oIx (mV 1) (mC (.int (0)))) (mV 5)) none (some (mV 6))) (mTup (aC (mV 7) aN))) (mSl (m2 oIx (m2 oIx (mV 1) (mC (.int (0)))) (mV 5)) (some (m2 opAdd (mV 6) (mC (.int (1))))) none)) (v := pol (putN y p r))
    ((e_put (xs := r.map frp) (x := frp p) (s := y) (e_2 (v := .tup (R.1.map pol)) (w := .int (x : Int)) (e_2 (e_v rfl) e_c fun T => rfl) (e_v rfl) fun T => oIx_row hr) (e_v rfl) (e_v rfl) (by rw [List.length_map]; omega) (by rw [List.length_map]; omega)).cast (by rw [← put_map]; rfl))
  obtain ⟨U4, q4, p4⟩ := nx_sc (cl := ⟨(semT tb (k + 8)).c, (semT tb (k + 8)).l, fun _ => .err⟩) (env := [.pv (.lst 0), .pv (rul R), s2, s3, .pv (.int (n : Int)), .pv (.int (x : Int)), .pv (.int (y : Int)), .pv (frp p), .pv (pol (putN y p r)), .un, .un, .un, .un]) (a := a2) (b := b2) (U := U3) (i := 9) (m := mTup (aC (m2 opAdd (m2 opAdd (mSl (m2 oIx (mV 1) (mC (.int (0)))) none (some (mV 5))) (mTup (aC (mV 8) aN))) (mSl (m2 oIx (mV 1) (mC (.int (0)))) (some (m2 opAdd (mV 5) (mC (.int (1))))) none)) (aC (m2 oIx (mV 1) (mC (.int (1)))) aN))) (v := rul (putN x (putN y p r) R.1, R.2))
    ((e_tup (ea_c (e_put (xs := R.1.map pol) (x := pol (putN y p r)) (s := x) (e_2 (e_v rfl) e_c fun T => rfl) (e_v rfl) (e_v rfl) (by rw [List.length_map]; omega) (by rw [List.length_map]; omega)) (ea_c (v := pol R.2) (e_2 (e_v rfl) e_c fun T => rfl) ea_n))).cast (by rw [← put_map]; rfl))
  obtain ⟨U5, q5, p5⟩ := nx_sc (cl := ⟨(semT tb (k + 8)).c, (semT tb (k + 8)).l, fun _ => .err⟩) (env := [.pv (.lst 0), .pv (rul R), s2, s3, .pv (.int (n : Int)), .pv (.int (x : Int)), .pv (.int (y : Int)), .pv (frp p), .pv (pol (putN y p r)), .pv (rul (putN x (putN y p r) R.1, R.2)), .un, .un, .un]) (a := a2) (b := b2) (U := U4) (i := 10) (m := mTup (aC (m2 oIx (mV 1) (mC (.int (0)))) (aC (m2 opAdd (m2 opAdd (mSl (m2 oIx (mV 1) (mC (.int (1)))) none (some (mV 6))) (mTup (aC (mV 7) aN))) (mSl (m2 oIx (mV 1) (mC (.int (1)))) (some (m2 opAdd (mV 6) (mC (.int (1))))) none)) aN))) (v := rul (R.1, putN y p R.2))
    ((e_tup (ea_c (v := .tup (R.1.map pol)) (e_2 (e_v rfl) e_c fun T => rfl) (ea_c (e_put (xs := R.2.map frp) (x := frp p) (s := y) (e_2 (e_v rfl) e_c fun T => rfl) (e_v rfl) (e_v rfl) (by rw [List.length_map]; omega) (by rw [List.length_map]; omega)) ea_n))).cast (by rw [← put_map]; rfl))
  have last : EC (mAn (mCall 36 (aC (mV 9) aN)) (mAn (mCall 36 (aC (mV 10) aN)) (mCall 36 (aC (mCall 32 (aC (mV 0) (aC (m2 opAdd (mC (.int (1))) (mCall 26 (aC (mV 0) (aC (mC (.int (3))) aN)))) aN))) aN)))) ⟨(semT tb (k + 8)).c, (semT tb (k + 8)).l, fun _ => .err⟩ [.pv (.lst 0), .pv (rul R), s2, s3, .pv (.int (n : Int)), .pv (.int (x : Int)), .pv (.int (y : Int)), .pv (frp p), .pv (pol (putN y p r)), .pv (rul (putN x (putN y p r) R.1, R.2)), .pv (rul (R.1, putN y p R.2)), .un, .un] U5 (· = .bl true) := by
    refine ec_and (ec_of fun a b => e_call (ea_c (e_v rfl) ea_n) fun T _ => spec36 k T w1) (ec_and (ec_of fun a b => e_call (ea_c (e_v rfl) ea_n) fun T _ => spec36 k T w2) (ec_call (eac_c (ruleE (k + 4) (m := 3) rfl (by omega) (by omega)) eac_n) fun vs e a b U => ?_))
    obtain ⟨v, vs, rfl, ⟨B, m, rfl, wB, _⟩, rfl⟩ := e
    exact ⟨_, a, b, spec36 k _ wB, rfl⟩
  obtain ⟨v, a6, b6, U6, h6, p6, rfl⟩ := last a2 b2 U5 List.prefix_rfl
  refine ⟨a6, b6, U6, ?_, ((((p1.trans p2).trans p3).trans p4).trans p5).trans p6⟩
  exact (nx_q q1).trans ((nx_q q2).trans ((nx_q q3).trans ((nx_q q4).trans ((nx_q q5).trans (q_rt (r_ok h6))))))
end Lk

set_option Elab.async false
set_option linter.all false
set_option maxRecDepth 100000
set_option maxHeartbeats 0
namespace Lk
open PySem PySem.Spec PyProof.Rows L2 Mi
theorem bd37_eq : bd37 = sQ (sG (gT (gC (gV 1) (gC (gV 2) gN))) (mTup (aC m37a (aC (mLst aN) aN)))) (sQ (sFo (gV 3) (iR (aC (mCall 26 (aC (mV 0) (aC (mC (.int (3))) aN))) aN)) lb37) (sQ (sI i37 (sQ (sR (mC (.bl false))) sN) sN) t37)) := rfl
theorem spec37 (k : Nat) (a b : Int) (T : Sto) : ∃ v a' b', (semT tb (k + 9)).c 37 [.lst 0] (cup a b T) = .ok v (cup a' b' T) ∧ v = .bl true := by
  rw [e37, bd37_eq]
  obtain ⟨v, a1, b1, U1, h1, p1, R, n, rfl, w, hn⟩ := ruleE (k + 4) (m := 2) (env := [.pv (.lst 0), .un, .un, .un, .un, .un, .un, .un, .un, .un, .un, .un, .un]) (T := T) rfl (by omega) (by omega) a b T List.prefix_rfl
  have q1 := s_tup2 (env2 := [.pv (.lst 0), .pv (rul R), .pv (.lst (U1.length + 1)), .un, .un, .un, .un, .un, .un, .un, .un, .un, .un]) h1 rfl
  have P0 : P37 T 0 [.pv (.lst 0), .pv (rul R), .pv (.lst (U1.length + 1)), .un, .un, .un, .un, .un, .un, .un, .un, .un, .un] (cup a1 b1 (U1 ++ [.lst []])) := ⟨R, n, a1, b1, U1 ++ [.lst []], U1.length, [], .un, rfl, rfl, pre_new p1, len_pre p1, cell_end, w, by omega, Nat.le_refl _, fun p hp => by cases hp⟩
  obtain ⟨r, a2, b2, h2, r0, r3⟩ := spec26 (k + 7) a1 b1 3 (U1 ++ [.lst []]) (by decide) (by decide)
  obtain ⟨m, rfl⟩ : ∃ m : Nat, r = (m : Int) := ⟨r.toNat, by omega⟩
  have P0' : P37 T 0 [.pv (.lst 0), .pv (rul R), .pv (.lst (U1.length + 1)), .un, .un, .un, .un, .un, .un, .un, .un, .un, .un] (cup a2 b2 (U1 ++ [.lst []])) := ⟨R, n, a2, b2, U1 ++ [.lst []], U1.length, [], .un, rfl, rfl, pre_new p1, len_pre p1, cell_end, w, by omega, Nat.le_refl _, fun p hp => by cases hp⟩
  obtain ⟨e, V2, q2, P2⟩ := loop37 (k + 4) (rngL (fun k => (k : Int)) m) 0 _ _ P0' (by rw [rngL_len]; omega)
  have hi : aC (mCall 26 (aC (mV 0) (aC (mC (.int (3))) aN))) aN ⟨(semT tb (k + 8)).c, (semT tb (k + 8)).l, fun _ => .err⟩ [.pv (.lst 0), .pv (rul R), .pv (.lst (U1.length + 1)), .un, .un, .un, .un, .un, .un, .un, .un, .un, .un] (cup a1 b1 (U1 ++ [.lst []])) = .ok [.int (m : Int)] (cup a2 b2 (U1 ++ [.lst []])) := by
    simp only [aC, aN, mCall, mV, mC, bnd, List.getElem?_cons_zero, h2]
  have q2' := sFo_im (g := gV 3) (b := lb37) (iR_nat hi (by omega)) q2
  obtain ⟨R', n', a3, b3, U3, j, ps, s3, rfl, rfl, pT, hj, hc, w', hn', hl, hps⟩ := P2.ex
  rw [rngL_len] at hl
  obtain ⟨V4, q4, p4⟩ := if_f (cl := ⟨(semT tb (k + 8)).c, (semT tb (k + 8)).l, fun _ => .err⟩) (a := sQ (sR (mC (.bl false))) sN) (b := sN) (i37_ok k (S := cup a3 b3 U3) (j := j + 1) (s3 := s3) w' hc (by omega) hps)
  obtain ⟨U4, rfl, r4⟩ := cup_pre p4
  obtain ⟨a5, b5, U5, q5, p5⟩ := t37_ok k (a := a3) (b := b3) (U := U4) (s2 := .pv (.lst (j + 1))) (s3 := s3) w'
  refine ⟨.bl true, a5, b5, ?_, rfl⟩
  have f : sQ (sG (gT (gC (gV 1) (gC (gV 2) gN))) (mTup (aC m37a (aC (mLst aN) aN)))) (sQ (sFo (gV 3) (iR (aC (mCall 26 (aC (mV 0) (aC (mC (.int (3))) aN))) aN)) lb37) (sQ (sI i37 (sQ (sR (mC (.bl false))) sN) sN) t37)) ⟨(semT tb (k + 8)).c, (semT tb (k + 8)).l, fun _ => .err⟩ [.pv (.lst 0), .un, .un, .un, .un, .un, .un, .un, .un, .un, .un, .un, .un] (cup a b T) = .rt (.bl true) (cup a5 b5 U5) := (nx_q q1).trans ((nx_q q2').trans ((nx_q q4).trans q5))
  rw [f]
  exact fin_cup ((pT.trans r4).trans p5) fun n => rfl
def b41 : MS := sQ (sI (tNo (tTru (mCall 37 (aC (mV 1) aN)))) (sQ (sR (mC (.bl false))) sN) sN) sN
theorem loop41 (k : Nat) {v : Slot} : ∀ (xs : List PV) (a b : Int) (s : Slot), ∃ a' b' s', forL ⟨(semT tb (k + 9)).c, (semT tb (k + 9)).l, fun _ => .err⟩ (gV 2) b41 xs [v, .pv (.lst 0), s] (cup a b []) = .nx [v, .pv (.lst 0), s'] (cup a' b' [])
  | [], a, b, s => ⟨a, b, s, rfl⟩
  | x :: xs, a, b, s => by
    obtain ⟨_, a1, b1, h1, rfl⟩ := spec37 k a b []
    obtain ⟨a3, b3, s3, h3⟩ := loop41 k (v := v) xs a1 b1 (.pv x)
    refine ⟨a3, b3, s3, ?_⟩
    rw [forL]
    have st : b41 ⟨(semT tb (k + 9)).c, (semT tb (k + 9)).l, fun _ => .err⟩ [v, .pv (.lst 0), .pv x] (cup a b []) = .nx [v, .pv (.lst 0), .pv x] (cup a1 b1 []) := by
      unfold b41
      simp only [sQ, sI, sN, tNo, tTru, mCall, mV, aC, aN, bnd, bndS, List.getElem?_cons_zero, List.getElem?_cons_succ, h1, truP, Bool.not_true]
    simp only [gV, List.set_cons_succ, List.set_cons_zero, st]
    exact h3
def x41 : MS := sI (tO (tNo (tTru (mCall 40 aN))) (tO (tNo (tTru (mCall 39 aN))) (tNo (tTru (mCall 38 aN))))) (sQ (sR (mC (.bl false))) sN) sN
def y41 : MS := sS 1 (mCall 25 (aC (mV 0) aN))
def z41 : MS := sFo (gV 2) (iR (aC (mC (.int (8))) aN)) b41
def w41 : MS := sR (mC (.bl true))
theorem bd41_eq : bd41 = sQ x41 (sQ y41 (sQ z41 (sQ w41 sN))) := rfl
theorem x41_gen {c : Call} {l : Nat → (Call → Sto → Res PV) → Sto → Res PV} {act : Sto → Res PV} {env : Mi.Env} {S : Sto} (h0 : c 40 [] S = .ok (.bl true) S) (h1 : c 39 [] S = .ok (.bl true) S) (h2 : c 38 [] S = .ok (.bl true) S) : x41 ⟨c, l, act⟩ env S = .nx env S := by
  unfold x41
  simp only [sI, sN, tO, tNo, tTru, mCall, aN, bnd, bndS, h0, h1, h2, truP, Bool.not_true]
theorem sem_ok0 (k : Nat) (ns : List Int) (hl : ns.length ≤ 63) : ∃ S', (semT tb (k + 13)).c 41 [.fl (ns.map .int)] [] = .ok (.bl true) S' := by
  obtain ⟨a, b, h1⟩ := spec25 (k + 11) ns hl
  obtain ⟨a3, b3, s3, h3⟩ := loop41 (k + 3) (v := .pv (.fl (ns.map .int))) (rngL (fun k => (k : Int)) 8) a b .un
  have p0 : x41 ⟨(semT tb (k + 12)).c, (semT tb (k + 12)).l, fun _ => .err⟩ [.pv (.fl (ns.map .int)), .un, .un] [] = .nx [.pv (.fl (ns.map .int)), .un, .un] [] := x41_gen (w40 k) (w39 k) (w38 k)
  have p1 : y41 ⟨(semT tb (k + 12)).c, (semT tb (k + 12)).l, fun _ => .err⟩ [.pv (.fl (ns.map .int)), .un, .un] [] = .nx [.pv (.fl (ns.map .int)), .pv (.lst 0), .un] (cup a b []) := by
    unfold y41
    simp only [sS, mCall, mV, aC, aN, bnd, bndS, List.getElem?_cons_zero, List.set_cons_succ, List.set_cons_zero, h1]
  have p2 : z41 ⟨(semT tb (k + 12)).c, (semT tb (k + 12)).l, fun _ => .err⟩ [.pv (.fl (ns.map .int)), .pv (.lst 0), .un] (cup a b []) = .nx [.pv (.fl (ns.map .int)), .pv (.lst 0), s3] (cup a3 b3 []) :=
    sFo_im (g := gV 2) (b := b41) (iR_of (m := 8) (i := 8) (ma := aC (mC (.int (8))) aN) rfl rfl (by decide)) h3
  refine ⟨(cup a3 b3 []).take 0, ?_⟩
  rw [e41 (k + 12), bd41_eq, q_nx p0, q_nx p1, q_nx p2]
  rfl
theorem sem_ok1 (ns : List Int) (hl : ns.length ≤ 63) : ∃ S', (semT (tbOf defs) 40).c 41 [.fl (ns.map .int)] [] = .ok (.bl true) S' := by
  have h := sem_ok0 27 ns hl
  have e : tb = tbOf defs := rfl
  have e2 : 27 + 13 = 40 := rfl
  rw [e, e2] at h
  exact h
end Lk

set_option Elab.async false
set_option linter.all false
set_option maxRecDepth 100000
set_option maxHeartbeats 0
namespace Lk
open PySem PySem.Spec PyProof.Rows L2 Mi
theorem sem_ok : ∀ ns : List Int, ns.length ≤ 63 → (∀ z ∈ ns, Builtin.Int.intBits z ≤ 1048576) → ∃ S', (semT (tbOf defs) 40).c 41 [.fl (ns.map .int)] [] = .ok (.bl true) S' := fun ns hl _ => sem_ok1 ns hl
theorem law_top : (HandSHeadRun.topDef (PySem.W.OpenLaw.row PySem.Challenge.rw_stepsgrafted_k31_whole_parted_rules).prog 60).name = df41.nm := by kernel_rfl
theorem F (w : World) (mg : Str → Option Value) (fa : Addr) (h : Heap) (Y : hk.says w h) (G : h.Ns mainGlobals mg) (hmg : mg df41.nm = some (.ref fa)) : ∃ K : PySem.W.Frag, K.In h ∧ LamX.LawAtS PySem.Challenge.rw_stepsgrafted_k31_whole_parted_rules w K (L2N.CX PySem.Challenge.rw_stepsgrafted_k31_whole_parted_rules.prog w) 40 63 "script" mg fa h := by
  obtain ⟨K, KX, c⟩ := Y
  exact ⟨K, KX, law_at (D := df41) (nf := 42) (ls := [30]) KX G c hmg all_ok hn hnm hls htf hD rfl hgl sem_ok⟩
end Lk

set_option Elab.async false
set_option linter.all false
set_option maxRecDepth 100000
set_option maxHeartbeats 0
namespace Lk
open PySem PySem.W PySem.Calls PyProof.Rows
theorem h7 : R.prog.bare := ⟨rfl, rfl, rfl, rfl, rfl, by decide +kernel⟩
theorem h6 : (chainsOk (view R.prog [0, 60]) && opensWell R.prog && (frees R.toRowW && R.within.isEmpty)) = true := by decide +kernel
theorem call : PySem.W.WalkO (view (OpenLaw.row PySem.Challenge.rw_stepsgrafted_k31_whole_parted_rules).prog [0, 60]) loose (XL (view (OpenLaw.row PySem.Challenge.rw_stepsgrafted_k31_whole_parted_rules).prog [0, 60]) []) hk.says (OpenLaw.row PySem.Challenge.rw_stepsgrafted_k31_whole_parted_rules).toRowW (HandSHeadRun.topDef (OpenLaw.row PySem.Challenge.rw_stepsgrafted_k31_whole_parted_rules).prog 60) [] fun f vs => PySem.call f vs := by
  refine LamX.walk_ofTsE (l := PySem.Challenge.rw_stepsgrafted_k31_whole_parted_rules) (n := 63) (k := 40) (x := "script") (CX := fun w => L2N.CX PySem.Challenge.rw_stepsgrafted_k31_whole_parted_rules.prog w) rfl (by decide) (by kernel_rfl) ⟨rfl, by decide, by decide⟩ ?F (fun w H s e s' => Mi.no_exc _ w H s e s')
  intro w mg fa h Y G hmg0
  have e := law_top
  generalize (HandSHeadRun.topDef (OpenLaw.row PySem.Challenge.rw_stepsgrafted_k31_whole_parted_rules).prog 60).name = nm at e hmg0
  subst e
  exact Lk.F w mg fa h Y G hmg0
theorem row (h5 : R.wellSaid = true) : R.Holds :=
  HandSHeadRun.head_imp (r := R) (q := view R.prog [0, 60]) (H := hk) (ob := ob) (M := 20000) (loose := loose) (d := HandSHeadRun.topDef R.prog 60) (kwd := []) ob_eq run (by kernel_rfl) (by kernel_rfl) (by rfl) (by decide +kernel) h5 h6 h7 (by w_witness2) call
end Lk

open PySem PySem.W PyProof.Rows
set_option Elab.async false
set_option maxRecDepth 100000 in
set_option maxHeartbeats 0 in
theorem PySem.Challenge.cw_stepsgrafted_k31_whole_parted_rules_holds : PySem.Challenge.rw_stepsgrafted_k31_whole_parted_rules.Holds := by
  w_on
  o_law
  refine Lk.row ?_
  assumption
