import PyProof.Rows.All
import Wide.All
import OpenK.AllK
import Wide.FinOn
import HandS.ForMost
import HandS.IsInst
import HandS.TupAny
import PyProof.P3Statements
import PySem.Challenge.RW_kindcounts_k02_ranks_told
set_option Elab.async false
set_option linter.all false
set_option maxRecDepth 100000
/-! IpA: plain data D, how a heap bears it (Rep), the frame's invariant (FI), how a heap goes on (Mv). -/
namespace Ip
open PySem L2

/-- plain data: what the interpreted programs reckon with -/
inductive D where
  | non | bl (b : Bool) | int (i : Int) | str (s : Str)
  | tup (xs : List D) | lst (xs : List D)
  | dic (ks : List Key) (ds : List D)
  | ins (c : Str) (fs : List D)
  | rng (lo hi : Int)
  | ty (n : String)
  | pool

/-- objects that are written -/
def MutO : HO → Prop
  | .lst _ => True
  | .dK _ => True
  | .dT _ => True
  | .set _ _ => True
  | .ins _ _ _ => True
  | _ => False

section
variable (K : PySem.W.Frag) (p : Addr)
mutual
/-- v stands for d in the heap; no list or dict of it lies at B -/
inductive Rep (B : Addr → Prop) (H : Hp) : V → D → Prop
  | non : Rep B H .non .non
  | bl (b : Bool) : Rep B H (.bl b) (.bl b)
  | int (i : Int) : Rep B H (.int i) (.int i)
  | str (x : Str) : Rep B H (.str x) (.str x)
  | ty (n : String) : Rep B H (.ty n) (.ty n)
  | tup {a : Addr} {vs : List V} {ds : List D} : SqT K H a vs → Reps B H vs ds → Rep B H (.ref a) (.tup ds)
  | lst {a : Addr} {vs : List V} {ds : List D} : H a = some (.lst vs) → ¬ B a → Reps B H vs ds → Rep B H (.ref a) (.lst ds)
  | dic {a : Addr} {kvs : List (Key × V)} {ds : List D} : H a = some (.dK kvs) → ¬ B a → (kvs.map (·.1)).Nodup → Reps B H (kvs.map (·.2)) ds → Rep B H (.ref a) (.dic (kvs.map (·.1)) ds)
  | rng {a : Addr} {lo hi : Int} : H a = some (.rng lo hi) → ¬ B a → Rep B H (.ref a) (.rng lo hi)
  | pool : Rep B H (.ref p) .pool
inductive Reps (B : Addr → Prop) (H : Hp) : List V → List D → Prop
  | nil : Reps B H [] []
  | cons {v : V} {vs : List V} {d : D} {ds : List D} : Rep B H v d → Reps B H vs ds → Reps B H (v :: vs) (d :: ds)
end
end

section
variable {K : PySem.W.Frag} {p : Addr} {B B' : Addr → Prop} {H H' : Hp}
theorem Reps.length : ∀ {vs : List V} {ds : List D}, Reps K p B H vs ds → vs.length = ds.length
  | _, _, .nil => rfl
  | _, _, .cons _ t => congrArg (· + 1) (Reps.length t)
theorem Reps.get : ∀ {vs : List V} {ds : List D}, Reps K p B H vs ds → ∀ {i : Nat} {d : D}, ds[i]? = some d → ∃ v, vs[i]? = some v ∧ Rep K p B H v d
  | _, _, .nil, i, d, h => by simp at h
  | _, _, .cons r t, 0, d, h => by
    simp only [List.getElem?_cons_zero, Option.some.injEq] at h
    subst h
    exact ⟨_, by simp, r⟩
  | _, _, .cons r t, i + 1, d, h => by
    simp only [List.getElem?_cons_succ] at h
    obtain ⟨v, e, q⟩ := Reps.get t h
    exact ⟨v, by simpa using e, q⟩
theorem Reps.getV : ∀ {vs : List V} {ds : List D}, Reps K p B H vs ds → ∀ {i : Nat} {v : V}, vs[i]? = some v → ∃ d, ds[i]? = some d ∧ Rep K p B H v d
  | _, _, .nil, i, d, h => by simp at h
  | _, _, .cons r t, 0, d, h => by
    simp only [List.getElem?_cons_zero, Option.some.injEq] at h
    subst h
    exact ⟨_, by simp, r⟩
  | _, _, .cons r t, i + 1, d, h => by
    simp only [List.getElem?_cons_succ] at h
    obtain ⟨v, e, q⟩ := Reps.getV t h
    exact ⟨v, by simpa using e, q⟩
theorem Reps.append : ∀ {vs ws : List V} {ds es : List D}, Reps K p B H vs ds → Reps K p B H ws es → Reps K p B H (vs ++ ws) (ds ++ es)
  | _, _, _, _, .nil, s => s
  | _, _, _, _, .cons r t, s => .cons r (Reps.append t s)
theorem Reps.take : ∀ {vs : List V} {ds : List D} (n : Nat), Reps K p B H vs ds → Reps K p B H (vs.take n) (ds.take n)
  | _, _, 0, _ => .nil
  | _, _, _ + 1, .nil => .nil
  | _, _, n + 1, .cons r t => .cons r (Reps.take n t)
theorem Reps.drop : ∀ {vs : List V} {ds : List D} (n : Nat), Reps K p B H vs ds → Reps K p B H (vs.drop n) (ds.drop n)
  | _, _, 0, r => r
  | _, _, _ + 1, .nil => .nil
  | _, _, n + 1, .cons _ t => Reps.drop n t
theorem Reps.set {v : V} {d : D} (r : Rep K p B H v d) : ∀ {vs : List V} {ds : List D} (i : Nat), Reps K p B H vs ds → Reps K p B H (vs.set i v) (ds.set i d)
  | _, _, _, .nil => .nil
  | _, _, 0, .cons _ t => .cons r t
  | _, _, i + 1, .cons q t => .cons q (Reps.set r i t)
theorem Reps.one {v : V} {d : D} (r : Rep K p B H v d) : Reps K p B H [v] [d] := .cons r .nil
theorem Reps.of_get : ∀ {vs : List V} {ds : List D}, vs.length = ds.length → (∀ (i : Nat) v d, vs[i]? = some v → ds[i]? = some d → Rep K p B H v d) → Reps K p B H vs ds
  | [], [], _, _ => .nil
  | [], _ :: _, h, _ => by simp at h
  | _ :: _, [], h, _ => by simp at h
  | v :: vs, d :: ds, h, f => .cons (f 0 v d (by simp) (by simp)) (Reps.of_get (by simpa using h) fun i w e h1 h2 => f (i + 1) w e (by simpa using h1) (by simpa using h2))
theorem Reps.mono_of {vs : List V} {ds : List D} (f : ∀ v d, Rep K p B H v d → Rep K p B' H' v d) : Reps K p B H vs ds → Reps K p B' H' vs ds := fun r =>
  Reps.of_get r.length fun i v d h1 h2 => by
    obtain ⟨w, e, q⟩ := r.get h2
    rw [h1] at e
    cases e
    exact f v d q

theorem rd_move {a : Addr} {u : HO} (k : ∀ b o, ¬ B b → H b = some o → H' b = some o) (nb : ¬ B a) (r : Rd H a u) : Rd H' a u := by
  rcases r with r | ⟨o, r⟩
  · exact .inl (k _ _ nb r)
  · exact .inr ⟨o, k _ _ nb r⟩
theorem rd_some {a : Addr} {u : HO} (r : Rd H a u) : H a ≠ none := by
  rcases r with r | ⟨o, r⟩ <;> rw [r] <;> simp
/-- data go on: what lies elsewhere than at B is kept, B grows by new places alone, at B lie things that are written -/
theorem Rep.move (k : ∀ b o, ¬ B b → H b = some o → H' b = some o) (hb : ∀ b, B' b → B b ∨ H b = none) (hm : ∀ b, B b → ∃ o, H b = some o ∧ MutO o) : ∀ {v : V} {d : D}, Rep K p B H v d → Rep K p B' H' v d := by
  have nB : ∀ {a : Addr} {u : HO}, Rd H a u → ¬ B a → ¬ B' a := fun {a u} r nb h => by
    rcases hb a h with q | q
    · exact nb q
    · exact rd_some r q
  have nT : ∀ {a : Addr} {vs : List V}, H a = some (.tup vs) → ¬ B a := fun {a vs} e h => by
    obtain ⟨o, e2, m⟩ := hm a h
    rw [e] at e2
    cases e2
    exact m
  have nF : ∀ {a : Addr} {o : Obj} {u : HO}, H a = some (.frz o u) → ¬ B a := fun {a o u} e h => by
    obtain ⟨o, e2, m⟩ := hm a h
    rw [e] at e2
    cases e2
    exact m
  intro v d r
  refine Rep.rec (motive_1 := fun v d _ => Rep K p B' H' v d) (motive_2 := fun vs ds _ => Reps K p B' H' vs ds) ?_ ?_ ?_ ?_ ?_ ?_ ?_ ?_ ?_ ?_ ?_ ?_ r
  · exact .non
  · exact fun b => .bl b
  · exact fun i => .int i
  · exact fun x => .str x
  · exact fun n => .ty n
  · intro a vs ds h _ ih
    refine .tup ?_ ih
    rcases h with (h | ⟨o, h⟩) | h
    · exact .inl (.inl (k _ _ (nT h) h))
    · exact .inl (.inr ⟨o, k _ _ (nF h) h⟩)
    · exact .inr h
  · intro a vs ds h nb _ ih
    exact .lst (k _ _ nb h) (nB (.inl h) nb) ih
  · intro a kvs ds h nb nd _ ih
    exact .dic (k _ _ nb h) (nB (.inl h) nb) nd ih
  · intro a lo hi h nb
    exact .rng (k _ _ nb h) (nB (.inl h) nb)
  · exact .pool
  · exact .nil
  · intro v vs d ds _ _ h1 h2
    exact .cons h1 h2
theorem Reps.move (k : ∀ b o, ¬ B b → H b = some o → H' b = some o) (hb : ∀ b, B' b → B b ∨ H b = none) (hm : ∀ b, B b → ∃ o, H b = some o ∧ MutO o) {vs : List V} {ds : List D} (r : Reps K p B H vs ds) : Reps K p B' H' vs ds :=
  r.mono_of fun _ _ q => q.move k hb hm
/-- all that is tracked is kept -/
theorem Rep.same (e : Same H H') {v : V} {d : D} (r : Rep K p B H v d) : Rep K p B H' v d := by
  refine Rep.rec (motive_1 := fun v d _ => Rep K p B H' v d) (motive_2 := fun vs ds _ => Reps K p B H' vs ds) ?_ ?_ ?_ ?_ ?_ ?_ ?_ ?_ ?_ ?_ ?_ ?_ r
  · exact .non
  · exact fun b => .bl b
  · exact fun i => .int i
  · exact fun x => .str x
  · exact fun n => .ty n
  · intro a vs ds h _ ih
    refine .tup ?_ ih
    rcases h with (h | ⟨o, h⟩) | h
    · exact .inl (.inl (e _ _ h))
    · exact .inl (.inr ⟨o, e _ _ h⟩)
    · exact .inr h
  · intro a vs ds h nb _ ih
    exact .lst (e _ _ h) nb ih
  · intro a kvs ds h nb nd _ ih
    exact .dic (e _ _ h) nb nd ih
  · intro a lo hi h nb
    exact .rng (e _ _ h) nb
  · exact .pool
  · exact .nil
  · intro v vs d ds _ _ h1 h2
    exact .cons h1 h2
theorem Reps.same (e : Same H H') {vs : List V} {ds : List D} (r : Reps K p B H vs ds) : Reps K p B H' vs ds := r.mono_of fun _ _ q => q.same e
/-- fewer places are shunned -/
theorem Rep.less (hb : ∀ b, B' b → B b) {v : V} {d : D} (r : Rep K p B H v d) : Rep K p B' H v d := by
  refine Rep.rec (motive_1 := fun v d _ => Rep K p B' H v d) (motive_2 := fun vs ds _ => Reps K p B' H vs ds) ?_ ?_ ?_ ?_ ?_ ?_ ?_ ?_ ?_ ?_ ?_ ?_ r
  · exact .non
  · exact fun b => .bl b
  · exact fun i => .int i
  · exact fun x => .str x
  · exact fun n => .ty n
  · intro a vs ds h _ ih
    exact .tup h ih
  · intro a vs ds h nb _ ih
    exact .lst h (fun q => nb (hb _ q)) ih
  · intro a kvs ds h nb nd _ ih
    exact .dic h (fun q => nb (hb _ q)) nd ih
  · intro a lo hi h nb
    exact .rng h (fun q => nb (hb _ q))
  · exact .pool
  · exact .nil
  · intro v vs d ds _ _ h1 h2
    exact .cons h1 h2
theorem Reps.less (hb : ∀ b, B' b → B b) {vs : List V} {ds : List D} (r : Reps K p B H vs ds) : Reps K p B' H vs ds := r.mono_of fun _ _ q => q.less hb
end

/-- a slot's value: data, or a list or dict of the frame's own that is still written -/
inductive SV where
  | sh (d : D) | own (xs : List D) | ownD (ks : List Key) (ds : List D)
abbrev En := List (Option SV)
abbrev Oa := Nat → Option Addr
def Own (oa : Oa) (b : Addr) : Prop := ∃ i, oa i = some b
def Bf (B0 : Addr → Prop) (p : Addr) (oa : Oa) (b : Addr) : Prop := B0 b ∨ b = p ∨ Own oa b
def oa0 : Oa := fun _ => none
theorem own0 {b : Addr} : ¬ Own oa0 b := fun ⟨_, h⟩ => nomatch h

/-- what an own slot holds -/
inductive OwnAt (K : PySem.W.Frag) (p : Addr) (B : Addr → Prop) (H : Hp) (a : Addr) : SV → Prop
  | own {xs : List D} {vs : List V} : H a = some (.lst vs) → Reps K p B H vs xs → OwnAt K p B H a (.own xs)
  | ownD {kvs : List (Key × V)} {ds : List D} : H a = some (.dK kvs) → (kvs.map (·.1)).Nodup → Reps K p B H (kvs.map (·.2)) ds → OwnAt K p B H a (.ownD (kvs.map (·.1)) ds)

/-- the pool -/
def PoolOk (K : PySem.W.Frag) (p : Addr) (B : Addr → Prop) (H : Hp) (S : List D) : Prop := ∃ vs, H p = some (.lst vs) ∧ Reps K p B H vs S

structure FI (K : PySem.W.Frag) (p : Addr) (B0 : Addr → Prop) (oa : Oa) (env : En) (σ : L2.St) (H : Hp) (S : List D) : Prop where
  len : env.length = σ.length
  sh : ∀ (i : Nat) d, env[i]? = some (some (.sh d)) → ∃ v, σ[i]? = some (some v) ∧ Rep K p (Bf B0 p oa) H v d
  ow : ∀ (i : Nat) a, oa i = some a → σ[i]? = some (some (.ref a)) ∧ ∃ x, env[i]? = some (some x) ∧ OwnAt K p (Bf B0 p oa) H a x
  has : ∀ (i : Nat) x, env[i]? = some (some x) → (∃ d, x = .sh d) ∨ ∃ a, oa i = some a
  inj : ∀ (i j : Nat) a, oa i = some a → oa j = some a → i = j
  dis : ∀ (i : Nat) a, oa i = some a → ¬ B0 a ∧ a ≠ p
  b0 : ∀ b, B0 b → ∃ o, H b = some o ∧ MutO o
  pool : PoolOk K p (Bf B0 p oa) H S

structure Mv (p : Addr) (oa oa' : Oa) (H H' : Hp) : Prop where
  kp : ∀ b o, b ≠ p → ¬ Own oa b → H b = some o → H' b = some o
  pk : H' p = none → H p = none
  nw : ∀ b, Own oa' b → Own oa b ∨ H b = none

/-- an expression's way: all but the pool is kept -/
def Keep (p : Addr) (H H' : Hp) : Prop := ∀ b o, b ≠ p → H b = some o → H' b = some o
theorem Keep.refl (p : Addr) (H : Hp) : Keep p H H := fun _ _ _ h => h
theorem Keep.trans {p : Addr} {H H1 H2 : Hp} (a : Keep p H H1) (b : Keep p H1 H2) : Keep p H H2 := fun c o n h => b c o n (a c o n h)
theorem Keep.of {p : Addr} {H H' : Hp} (e : Same H H') : Keep p H H' := fun b o _ h => e b o h

section
variable {K : PySem.W.Frag} {p : Addr} {B0 : Addr → Prop} {oa oa' oa2 : Oa} {env : En} {σ : L2.St} {H H' H2 : Hp} {S S' : List D}
theorem Mv.refl : Mv p oa oa H H := ⟨fun _ _ _ _ h => h, fun h => h, fun _ h => .inl h⟩
theorem Mv.trans (a : Mv p oa oa' H H') (b : Mv p oa' oa2 H' H2) : Mv p oa oa2 H H2 where
  kp := fun c o n no h => b.kp c o n (fun q => (a.nw c q).elim no fun z => by rw [z] at h; cases h) (a.kp c o n no h)
  pk := fun h => a.pk (b.pk h)
  nw := fun c q => by
    rcases b.nw c q with z | z
    · exact a.nw c z
    · by_cases ho : Own oa c
      · exact .inl ho
      · by_cases hp : c = p
        · subst hp
          exact .inr (a.pk z)
        · cases e : H c with
          | none => exact .inr rfl
          | some o =>
            rw [a.kp c o hp ho e] at z
            cases z
/-- the pool is there -/
theorem PoolOk.some {B : Addr → Prop} (h : PoolOk K p B H S) : H p ≠ none := by
  obtain ⟨vs, e, _⟩ := h
  rw [e]
  simp
theorem Keep.mv (k : Keep p H H') (h : H' p ≠ none) : Mv p oa oa H H' := ⟨fun b o n _ q => k b o n q, fun z => absurd z h, fun _ q => .inl q⟩
theorem OwnAt.mut {B : Addr → Prop} {a : Addr} {x : SV} (h : OwnAt K p B H a x) : ∃ o, H a = some o ∧ MutO o := by
  cases h with
  | own e _ => exact ⟨_, e, trivial⟩
  | ownD e _ _ => exact ⟨_, e, trivial⟩
theorem FI.mut (f : FI K p B0 oa env σ H S) : ∀ b, Bf B0 p oa b → ∃ o, H b = some o ∧ MutO o := fun b h => by
  rcases h with h | h | ⟨i, h⟩
  · exact f.b0 b h
  · obtain ⟨vs, e, _⟩ := f.pool
    exact ⟨.lst vs, by rw [h]; exact e, trivial⟩
  · obtain ⟨_, x, _, q⟩ := f.ow i b h
    exact q.mut
theorem FI.new (f : FI K p B0 oa env σ H S) {b : Addr} (h : H b = none) : ¬ Bf B0 p oa b := fun q => by
  obtain ⟨o, e, _⟩ := f.mut b q
  rw [h] at e
  cases e
theorem OwnAt.move {B : Addr → Prop} {a : Addr} {x : SV} (h : OwnAt K p B H a x) (k : ∀ b o, ¬ B b → H b = some o → H' b = some o) (ka : ∀ o, H a = some o → H' a = some o) (hm : ∀ b, B b → ∃ o, H b = some o ∧ MutO o) : OwnAt K p B H' a x := by
  cases h with
  | own e r => exact .own (ka _ e) (r.move k (fun _ q => .inl q) hm)
  | ownD e n r => exact .ownD (ka _ e) n (r.move k (fun _ q => .inl q) hm)
theorem OwnAt.less {B B' : Addr → Prop} {a : Addr} {x : SV} (h : OwnAt K p B H a x) (k : ∀ b, B' b → B b) : OwnAt K p B' H a x := by
  cases h with
  | own e r => exact .own e (r.less k)
  | ownD e n r => exact .ownD e n (r.less k)
theorem OwnAt.more {B B' : Addr → Prop} {a : Addr} {x : SV} (h : OwnAt K p B H a x) (hb : ∀ b, B' b → B b ∨ H b = none) (hm : ∀ b, B b → ∃ o, H b = some o ∧ MutO o) : OwnAt K p B' H a x := by
  cases h with
  | own e r => exact .own e (r.move (fun _ _ _ q => q) hb hm)
  | ownD e n r => exact .ownD e n (r.move (fun _ _ _ q => q) hb hm)
/-- all but the pool is kept; the pool holds S' -/
theorem FI.keep (f : FI K p B0 oa env σ H S) (k : Keep p H H') (hp : PoolOk K p (Bf B0 p oa) H' S') : FI K p B0 oa env σ H' S' where
  len := f.len
  sh := fun i d e => by
    obtain ⟨v, e1, r⟩ := f.sh i d e
    exact ⟨v, e1, r.move (fun b o nb q => k b o (fun z => nb (.inr (.inl z))) q) (fun _ q => .inl q) f.mut⟩
  ow := fun i a e => by
    obtain ⟨e1, x, e2, q⟩ := f.ow i a e
    exact ⟨e1, x, e2, q.move (fun b o nb q => k b o (fun z => nb (.inr (.inl z))) q) (fun o q => k a o (f.dis i a e).2 q) f.mut⟩
  has := f.has
  inj := f.inj
  dis := f.dis
  b0 := fun b h => by
    obtain ⟨o, e, m⟩ := f.b0 b h
    by_cases hb : b = p
    · subst hb
      obtain ⟨vs, e2, _⟩ := hp
      exact ⟨_, e2, trivial⟩
    · exact ⟨o, k b o hb e, m⟩
  pool := hp
theorem FI.same (f : FI K p B0 oa env σ H S) (e : Same H H') : FI K p B0 oa env σ H' S := f.keep (Keep.of e) (by
  obtain ⟨vs, e1, r⟩ := f.pool
  exact ⟨vs, e _ _ e1, r.same e⟩)
/-- data of an expression go on -/
theorem Rep.keep {v : V} {d : D} (r : Rep K p (Bf B0 p oa) H v d) (f : FI K p B0 oa env σ H S) (k : Keep p H H') : Rep K p (Bf B0 p oa) H' v d :=
  r.move (fun b o nb q => k b o (fun z => nb (.inr (.inl z))) q) (fun _ q => .inl q) f.mut
theorem Reps.keep {vs : List V} {ds : List D} (r : Reps K p (Bf B0 p oa) H vs ds) (f : FI K p B0 oa env σ H S) (k : Keep p H H') : Reps K p (Bf B0 p oa) H' vs ds :=
  r.mono_of fun _ _ q => q.keep f k
/-- one more place to shun: a new one, written -/
theorem FI.shun (f : FI K p B0 oa env σ H S) {a : Addr} (hn : H a = none) {o : HO} (hm : MutO o) : FI K p (fun b => B0 b ∨ b = a) oa env σ (upd H a o) S := by
  have hs : Same H (upd H a o) := fun b u q => by
    rw [upd_ne (ne_of_none q hn)]
    exact q
  have f1 := f.same hs
  have hb : ∀ b, Bf (fun b => B0 b ∨ b = a) p oa b → Bf B0 p oa b ∨ H b = none := fun b h => by
    rcases h with (h | h) | h | h
    · exact .inl (.inl h)
    · exact .inr (h ▸ hn)
    · exact .inl (.inr (.inl h))
    · exact .inl (.inr (.inr h))
  have mv : ∀ {v : V} {d : D}, Rep K p (Bf B0 p oa) H v d → Rep K p (Bf (fun b => B0 b ∨ b = a) p oa) (upd H a o) v d := fun r => r.move (fun b o _ q => hs b o q) hb f.mut
  have mvs : ∀ {vs : List V} {ds : List D}, Reps K p (Bf B0 p oa) H vs ds → Reps K p (Bf (fun b => B0 b ∨ b = a) p oa) (upd H a o) vs ds := fun r => r.mono_of fun _ _ q => mv q
  refine ⟨f.len, fun i d e => ?_, fun i b e => ?_, f.has, f.inj, fun i b e => ?_, fun b h => ?_, ?_⟩
  · obtain ⟨v, e1, r⟩ := f.sh i d e
    exact ⟨v, e1, mv r⟩
  · obtain ⟨e1, x, e2, q⟩ := f.ow i b e
    refine ⟨e1, x, e2, ?_⟩
    cases q with
    | own e3 r => exact .own (hs _ _ e3) (mvs r)
    | ownD e3 n r => exact .ownD (hs _ _ e3) n (mvs r)
  · refine ⟨fun h => ?_, (f.dis i b e).2⟩
    rcases h with h | h
    · exact (f.dis i b e).1 h
    · obtain ⟨_, x, _, q⟩ := f.ow i b e
      obtain ⟨u, e3, _⟩ := q.mut
      rw [h, hn] at e3
      cases e3
  · rcases h with h | h
    · obtain ⟨u, e, m⟩ := f.b0 b h
      exact ⟨u, hs _ _ e, m⟩
    · exact ⟨o, h ▸ upd_same, hm⟩
  · obtain ⟨vs, e1, r⟩ := f.pool
    exact ⟨vs, hs _ _ e1, mvs r⟩
/-- the written place that is shunned is written anew -/
theorem FI.wrote {a : Addr} {o : HO} (f : FI K p (fun b => B0 b ∨ b = a) oa env σ H S) (hp : a ≠ p) (hm : MutO o) (ho : ∀ i, oa i ≠ some a) : FI K p (fun b => B0 b ∨ b = a) oa env σ (upd H a o) S := by
  have ks : ∀ b u, ¬ Bf (fun b => B0 b ∨ b = a) p oa b → H b = some u → upd H a o b = some u := fun b u nb q => by
    rw [upd_ne fun z => nb (.inl (.inr z))]
    exact q
  have mv : ∀ {v : V} {d : D}, Rep K p (Bf (fun b => B0 b ∨ b = a) p oa) H v d → Rep K p (Bf (fun b => B0 b ∨ b = a) p oa) (upd H a o) v d := fun r => r.move ks (fun _ q => .inl q) f.mut
  have mvs : ∀ {vs : List V} {ds : List D}, Reps K p (Bf (fun b => B0 b ∨ b = a) p oa) H vs ds → Reps K p (Bf (fun b => B0 b ∨ b = a) p oa) (upd H a o) vs ds := fun r => r.mono_of fun _ _ q => mv q
  refine ⟨f.len, fun i d e => ?_, fun i b e => ?_, f.has, f.inj, f.dis, fun b h => ?_, ?_⟩
  · obtain ⟨v, e1, r⟩ := f.sh i d e
    exact ⟨v, e1, mv r⟩
  · obtain ⟨e1, x, e2, q⟩ := f.ow i b e
    have nb : b ≠ a := fun z => ho i (z ▸ e)
    refine ⟨e1, x, e2, ?_⟩
    cases q with
    | own e3 r => exact .own (by rw [upd_ne nb]; exact e3) (mvs r)
    | ownD e3 n r => exact .ownD (by rw [upd_ne nb]; exact e3) n (mvs r)
  · by_cases hb : b = a
    · exact ⟨o, hb ▸ upd_same, hm⟩
    · obtain ⟨u, e, m⟩ := f.b0 b h
      exact ⟨u, by rw [upd_ne hb]; exact e, m⟩
  · obtain ⟨vs, e1, r⟩ := f.pool
    exact ⟨vs, by rw [upd_ne (Ne.symm hp)]; exact e1, mvs r⟩
/-- the shunned place is let go -/
theorem FI.unshun {a : Addr} (f : FI K p (fun b => B0 b ∨ b = a) oa env σ H S) : FI K p B0 oa env σ H S := by
  have hb : ∀ b, Bf B0 p oa b → Bf (fun b => B0 b ∨ b = a) p oa b := fun b h => by
    rcases h with h | h
    · exact .inl (.inl h)
    · exact .inr h
  refine ⟨f.len, fun i d e => ?_, fun i b e => ?_, f.has, f.inj, fun i b e => ⟨fun q => (f.dis i b e).1 (.inl q), (f.dis i b e).2⟩, fun b h => f.b0 b (.inl h), ?_⟩
  · obtain ⟨v, e1, r⟩ := f.sh i d e
    exact ⟨v, e1, r.less hb⟩
  · obtain ⟨e1, x, e2, q⟩ := f.ow i b e
    exact ⟨e1, x, e2, q.less hb⟩
  · obtain ⟨vs, e1, r⟩ := f.pool
    exact ⟨vs, e1, r.less hb⟩

def oaDrop (oa : Oa) (i : Nat) : Oa := fun j => if j = i then none else oa j
def oaPut (oa : Oa) (i : Nat) (a : Addr) : Oa := fun j => if j = i then some a else oa j
theorem own_drop {i : Nat} {b : Addr} (h : Own (oaDrop oa i) b) : Own oa b := by
  obtain ⟨j, e⟩ := h
  unfold oaDrop at e
  by_cases hj : j = i
  · rw [if_pos hj] at e
    cases e
  · rw [if_neg hj] at e
    exact ⟨j, e⟩
theorem own_put {i : Nat} {a b : Addr} (h : Own (oaPut oa i a) b) : Own oa b ∨ b = a := by
  obtain ⟨j, e⟩ := h
  unfold oaPut at e
  by_cases hj : j = i
  · rw [if_pos hj] at e
    cases e
    exact .inr rfl
  · rw [if_neg hj] at e
    exact .inl ⟨j, e⟩
theorem bf_drop {i : Nat} {b : Addr} (h : Bf B0 p (oaDrop oa i) b) : Bf B0 p oa b := by
  rcases h with h | h | h
  · exact .inl h
  · exact .inr (.inl h)
  · exact .inr (.inr (own_drop h))
theorem get_set_ne {α : Type} {l : List α} {i j : Nat} {x : α} (h : j ≠ i) : (l.set i x)[j]? = l[j]? := List.getElem?_set_ne (Ne.symm h)
theorem get_set_eq {α : Type} {l : List α} {i : Nat} {x y : α} (h : (l.set i x)[i]? = some y) : y = x ∧ i < l.length := by
  by_cases hi : i < l.length
  · rw [List.getElem?_set_self hi] at h
    exact ⟨(Option.some.inj h).symm, hi⟩
  · rw [List.getElem?_eq_none (by simpa using hi)] at h
    cases h
/-- a slot takes data -/
theorem FI.set (f : FI K p B0 oa env σ H S) {v : V} {d : D} (i : Nat) (r : Rep K p (Bf B0 p oa) H v d) : FI K p B0 (oaDrop oa i) (env.set i (some (.sh d))) (σ.set i (some v)) H S := by
  refine ⟨by rw [List.length_set, List.length_set, f.len], fun j e h => ?_, fun j b h => ?_, fun j x h => ?_, fun j k b h1 h2 => ?_, fun j b h => ?_, f.b0, ?_⟩
  · by_cases hj : j = i
    · subst hj
      obtain ⟨e1, hl⟩ := get_set_eq h
      cases e1
      exact ⟨v, by rw [List.getElem?_set_self (by rw [← f.len]; exact hl)], r.less fun b => bf_drop⟩
    · rw [get_set_ne hj] at h
      obtain ⟨w, e1, q⟩ := f.sh j e h
      exact ⟨w, by rw [get_set_ne hj]; exact e1, q.less fun b => bf_drop⟩
  · unfold oaDrop at h
    by_cases hj : j = i
    · rw [if_pos hj] at h
      cases h
    · rw [if_neg hj] at h
      obtain ⟨e1, x, e2, q⟩ := f.ow j b h
      exact ⟨by rw [get_set_ne hj]; exact e1, x, by rw [get_set_ne hj]; exact e2, q.less fun b => bf_drop⟩
  · by_cases hj : j = i
    · subst hj
      obtain ⟨e1, _⟩ := get_set_eq h
      cases e1
      exact .inl ⟨_, rfl⟩
    · rw [get_set_ne hj] at h
      rcases f.has j x h with q | ⟨a, q⟩
      · exact .inl q
      · exact .inr ⟨a, by unfold oaDrop; rw [if_neg hj]; exact q⟩
  · unfold oaDrop at h1 h2
    split at h1
    · cases h1
    · split at h2
      · cases h2
      · exact f.inj j k b h1 h2
  · unfold oaDrop at h
    split at h
    · cases h
    · exact f.dis j b h
  · obtain ⟨vs, e1, q⟩ := f.pool
    exact ⟨vs, e1, q.less fun b => bf_drop⟩
theorem Mv.drop (i : Nat) : Mv p oa (oaDrop oa i) H H := ⟨fun _ _ _ _ h => h, fun h => h, fun _ h => .inl (own_drop h)⟩
/-- a slot takes a new list or dict of its own (at a, that was shunned) -/
theorem FI.setOwn {a : Addr} {x : SV} (f : FI K p (fun b => B0 b ∨ b = a) oa env σ H S) (i : Nat) (hi : i < env.length) (hp : a ≠ p) (h0 : ¬ B0 a) (ho : ∀ j, oa j ≠ some a) (hx : ∀ d, x ≠ .sh d) (q : OwnAt K p (Bf (fun b => B0 b ∨ b = a) p oa) H a x) :
    FI K p B0 (oaPut oa i a) (env.set i (some x)) (σ.set i (some (.ref a))) H S := by
  have hb : ∀ b, Bf B0 p (oaPut oa i a) b → Bf (fun b => B0 b ∨ b = a) p oa b := fun b h => by
    rcases h with h | h | h
    · exact .inl (.inl h)
    · exact .inr (.inl h)
    · rcases own_put h with h | h
      · exact .inr (.inr h)
      · exact .inl (.inr h)
  refine ⟨by rw [List.length_set, List.length_set, f.len], fun j e h => ?_, fun j b h => ?_, fun j y h => ?_, fun j k b h1 h2 => ?_, fun j b h => ?_, fun b h => f.b0 b (.inl h), ?_⟩
  · by_cases hj : j = i
    · subst hj
      obtain ⟨e1, _⟩ := get_set_eq h
      exact absurd (Option.some.inj e1).symm (hx e)
    · rw [get_set_ne hj] at h
      obtain ⟨w, e1, r⟩ := f.sh j e h
      exact ⟨w, by rw [get_set_ne hj]; exact e1, r.less hb⟩
  · unfold oaPut at h
    by_cases hj : j = i
    · rw [if_pos hj] at h
      cases h
      subst hj
      exact ⟨by rw [List.getElem?_set_self (by rw [← f.len]; exact hi)], x, by rw [List.getElem?_set_self hi], q.less hb⟩
    · rw [if_neg hj] at h
      obtain ⟨e1, y, e2, r⟩ := f.ow j b h
      exact ⟨by rw [get_set_ne hj]; exact e1, y, by rw [get_set_ne hj]; exact e2, r.less hb⟩
  · by_cases hj : j = i
    · exact .inr ⟨a, by unfold oaPut; rw [if_pos hj]⟩
    · rw [get_set_ne hj] at h
      rcases f.has j y h with z | ⟨b, z⟩
      · exact .inl z
      · exact .inr ⟨b, by unfold oaPut; rw [if_neg hj]; exact z⟩
  · unfold oaPut at h1 h2
    split at h1
    · split at h2
      · rename_i z1 z2
        rw [z1, z2]
      · cases h1
        exact absurd h2 (ho k)
    · split at h2
      · cases h2
        exact absurd h1 (ho j)
      · exact f.inj j k b h1 h2
  · unfold oaPut at h
    split at h
    · cases h
      exact ⟨h0, hp⟩
    · exact ⟨fun z => (f.dis j b h).1 (.inl z), (f.dis j b h).2⟩
  · obtain ⟨vs, e1, r⟩ := f.pool
    exact ⟨vs, e1, r.less hb⟩
/-- an own slot is written (its object at a becomes o') -/
theorem FI.own {a : Addr} {i : Nat} {x : SV} {o' : HO} (f : FI K p B0 oa env σ H S) (ha : oa i = some a) (hx : ∀ d, x ≠ .sh d) (q : OwnAt K p (Bf B0 p oa) (upd H a o') a x) : FI K p B0 oa (env.set i (some x)) σ (upd H a o') S := by
  have ks : ∀ b u, ¬ Bf B0 p oa b → H b = some u → upd H a o' b = some u := fun b u nb q => by
    rw [upd_ne (fun z : b = a => nb (.inr (.inr ⟨i, by rw [z]; exact ha⟩)))]
    exact q
  have mv : ∀ {v : V} {d : D}, Rep K p (Bf B0 p oa) H v d → Rep K p (Bf B0 p oa) (upd H a o') v d := fun r => r.move ks (fun _ q => .inl q) f.mut
  have mvs : ∀ {vs : List V} {ds : List D}, Reps K p (Bf B0 p oa) H vs ds → Reps K p (Bf B0 p oa) (upd H a o') vs ds := fun r => r.mono_of fun _ _ q => mv q
  refine ⟨by rw [List.length_set, f.len], fun j e h => ?_, fun j b h => ?_, fun j y h => ?_, f.inj, f.dis, fun b h => ?_, ?_⟩
  · by_cases hj : j = i
    · subst hj
      obtain ⟨e1, _⟩ := get_set_eq h
      exact absurd (Option.some.inj e1).symm (hx e)
    · rw [get_set_ne hj] at h
      obtain ⟨w, e1, r⟩ := f.sh j e h
      exact ⟨w, e1, mv r⟩
  · by_cases hj : j = i
    · subst hj
      rw [ha] at h
      cases h
      obtain ⟨e1, y, e2, _⟩ := f.ow j a ha
      have hl : j < env.length := (List.getElem?_eq_some_iff.mp e2).1
      exact ⟨e1, x, by rw [List.getElem?_set_self hl], q⟩
    · obtain ⟨e1, y, e2, r⟩ := f.ow j b h
      have nb : b ≠ a := fun z => hj (f.inj j i a (z ▸ h) ha)
      refine ⟨e1, y, by rw [get_set_ne hj]; exact e2, ?_⟩
      cases r with
      | own e3 r => exact .own (by rw [upd_ne nb]; exact e3) (mvs r)
      | ownD e3 n r => exact .ownD (by rw [upd_ne nb]; exact e3) n (mvs r)
  · by_cases hj : j = i
    · exact .inr ⟨a, hj ▸ ha⟩
    · rw [get_set_ne hj] at h
      exact f.has j y h
  · obtain ⟨u, e, m⟩ := f.b0 b h
    exact ⟨u, by rw [upd_ne (fun z : b = a => (f.dis i a ha).1 (by rw [← z]; exact h))]; exact e, m⟩
  · obtain ⟨vs, e1, r⟩ := f.pool
    exact ⟨vs, by rw [upd_ne (Ne.symm (f.dis i a ha).2)]; exact e1, mvs r⟩
theorem Mv.own {a : Addr} {i : Nat} {o' : HO} (ha : oa i = some a) (hp : a ≠ p) : Mv p oa oa H (upd H a o') :=
  ⟨fun b o _ no h => by rw [upd_ne (fun z : b = a => no ⟨i, by rw [z]; exact ha⟩)]; exact h, fun h => by rw [upd_ne (Ne.symm hp)] at h; exact h, fun _ h => .inl h⟩
/-- an own slot is read as data from now on -/
def frozen : SV → D
  | .sh d => d
  | .own xs => .lst xs
  | .ownD ks ds => .dic ks ds
def freeze (env : En) (i : Nat) : En := match env[i]? with
  | some (some x) => env.set i (some (.sh (frozen x)))
  | _ => env
theorem FI.freeze (f : FI K p B0 oa env σ H S) (i : Nat) : ∃ oa', FI K p B0 oa' (freeze env i) σ H S ∧ Mv p oa oa' H H := by
  unfold Ip.freeze
  split
  · rename_i x hx
    have hl : i < env.length := (List.getElem?_eq_some_iff.mp hx).1
    rcases f.has i x hx with ⟨d, rfl⟩ | ⟨a, ha⟩
    · obtain ⟨v, e1, r⟩ := f.sh i d hx
      have q := f.set i r
      have es : σ.set i (some v) = σ := by
        apply List.ext_getElem?
        intro j
        by_cases hj : j = i
        · subst hj
          rw [List.getElem?_set_self (by rw [← f.len]; exact hl), e1]
        · rw [get_set_ne hj]
      rw [es] at q
      exact ⟨_, q, Mv.drop i⟩
    · obtain ⟨e1, y, e2, q⟩ := f.ow i a ha
      rw [hx] at e2
      cases e2
      have nb : ¬ Bf B0 p (oaDrop oa i) a := fun h => by
        rcases h with h | h | ⟨j, h⟩
        · exact (f.dis i a ha).1 h
        · exact (f.dis i a ha).2 h
        · unfold oaDrop at h
          split at h
          · cases h
          · rename_i hj
            exact hj (f.inj j i a h ha)
      have r : Rep K p (Bf B0 p (oaDrop oa i)) H (.ref a) (frozen x) := by
        cases q with
        | own e r => exact .lst e nb (r.less fun _ => bf_drop)
        | ownD e n r => exact .dic e nb n (r.less fun _ => bf_drop)
      refine ⟨oaDrop oa i, ⟨by rw [List.length_set, f.len], fun j e h => ?_, fun j b h => ?_, fun j z h => ?_, fun j k b h1 h2 => ?_, fun j b h => ?_, f.b0, ?_⟩, Mv.drop i⟩
      · by_cases hj : j = i
        · subst hj
          obtain ⟨z, _⟩ := get_set_eq h
          cases z
          exact ⟨_, e1, r⟩
        · rw [get_set_ne hj] at h
          obtain ⟨w, e3, q3⟩ := f.sh j e h
          exact ⟨w, e3, q3.less fun b => bf_drop⟩
      · unfold oaDrop at h
        by_cases hj : j = i
        · rw [if_pos hj] at h
          cases h
        · rw [if_neg hj] at h
          obtain ⟨e3, y, e4, q4⟩ := f.ow j b h
          exact ⟨e3, y, by rw [get_set_ne hj]; exact e4, q4.less fun b => bf_drop⟩
      · by_cases hj : j = i
        · subst hj
          obtain ⟨z1, _⟩ := get_set_eq h
          cases z1
          exact .inl ⟨_, rfl⟩
        · rw [get_set_ne hj] at h
          rcases f.has j z h with q5 | ⟨b, q5⟩
          · exact .inl q5
          · exact .inr ⟨b, by unfold oaDrop; rw [if_neg hj]; exact q5⟩
      · unfold oaDrop at h1 h2
        split at h1
        · cases h1
        · split at h2
          · cases h2
          · exact f.inj j k b h1 h2
      · unfold oaDrop at h
        split at h
        · cases h
        · exact f.dis j b h
      · obtain ⟨vs, e3, q3⟩ := f.pool
        exact ⟨vs, e3, q3.less fun b => bf_drop⟩
  · exact ⟨oa, f, Mv.refl⟩
theorem FI.freezes (f : FI K p B0 oa env σ H S) : ∀ (is : List Nat), ∃ oa', FI K p B0 oa' (is.foldl Ip.freeze env) σ H S ∧ Mv p oa oa' H H := by
  intro is
  induction is generalizing env oa with
  | nil => exact ⟨oa, f, Mv.refl⟩
  | cons i is ih =>
    obtain ⟨oa1, f1, m1⟩ := f.freeze i
    obtain ⟨oa2, f2, m2⟩ := ih f1
    exact ⟨oa2, f2, m1.trans m2⟩
end
end Ip

set_option maxHeartbeats 1000000
/-! IpB: what an expression means over plain data, and that it means it: the ways of putting together. -/
namespace L2
open PySem
section
variable {X : Cx} {e : Expr}
theorem PE.imp {t t' : TE} (h : PE X e t) (f : ∀ σ H Q, t' σ H Q → t σ H Q) : PE X e t' := ⟨fun pins s σ H Q I q => h.run pins s σ H Q I (f σ H Q q)⟩
theorem PT.imp {t t' : TT} (h : PT X e t) (f : ∀ σ H Q, t' σ H Q → t σ H Q) : PT X e t' := ⟨fun pins s σ H Q I q => h.run pins s σ H Q I (f σ H Q q)⟩
theorem PW.imp {t t' : TT} (h : PW X e t) (f : ∀ σ H Q, t' σ H Q → t σ H Q) : PW X e t' := ⟨fun wh pins s σ H Q I q => h.run wh pins s σ H Q I (f σ H Q q)⟩
theorem PA.imp {es : List Expr} {t t' : TA} (h : PA X es t) (f : ∀ σ H Q, t' σ H Q → t σ H Q) : PA X es t' := ⟨fun pos pins s σ H Q I q => h.run pos pins s σ H Q I (f σ H Q q)⟩

end
end L2
namespace Ip
open PySem L2

/-- what the defs mean, by name -/
abbrev RC := Str → List D → List D → Option (D × List D)
abbrev XM := RC → En → List D → Option (D × List D)
abbrev TM := RC → En → List D → Option (Bool × List D)
abbrev AM := RC → En → List D → Option (List D × List D)

section
variable (K : PySem.W.Frag) (p : Addr)
/-- readings by a meaning -/
def tI (f : En → List D → Option (D × List D)) : TE := fun σ H Q => ∃ env S B0 oa, FI K p B0 oa env σ H S ∧ ∃ r, f env S = some r ∧
  ∀ v H', FI K p B0 oa env σ H' r.2 → Keep p H H' → Rep K p (Bf B0 p oa) H' v r.1 → Q v H'
def tTI (f : En → List D → Option (Bool × List D)) : TT := fun σ H Q => ∃ env S B0 oa, FI K p B0 oa env σ H S ∧ ∃ r, f env S = some r ∧
  ∀ H', FI K p B0 oa env σ H' r.2 → Keep p H H' → Q r.1 H'
def tAI (f : En → List D → Option (List D × List D)) : TA := fun σ H Q => ∃ env S B0 oa, FI K p B0 oa env σ H S ∧ ∃ r, f env S = some r ∧
  ∀ vs H', FI K p B0 oa env σ H' r.2 → Keep p H H' → Reps K p (Bf B0 p oa) H' vs r.1 → Q vs H'
/-- a new list: nothing else lies there, nothing else holds it -/
def tLI (f : En → List D → Option (List D × List D)) : TE := fun σ H Q => ∃ env S B0 oa, FI K p B0 oa env σ H S ∧ ∃ r, f env S = some r ∧
  ∀ a vs H', FI K p (fun b => B0 b ∨ b = a) oa env σ H' r.2 → Keep p H H' → H a = none → H' a = some (.lst vs) → Reps K p (Bf (fun b => B0 b ∨ b = a) p oa) H' vs r.1 → Q (.ref a) H'
/-- a def's promise by its meaning -/
def spI (n : Nat) (m : List D → List D → Option (D × List D)) : Sp := fun vs H Q _ => ∃ ds S B0, vs.length = n ∧ Reps K p (Bf B0 p oa0) H vs ds ∧ (∀ b, B0 b → ∃ o, H b = some o ∧ MutO o) ∧ PoolOk K p (Bf B0 p oa0) H S ∧
  ∃ r, m ds S = some r ∧ ∀ v H', Keep p H H' → PoolOk K p (Bf B0 p oa0) H' r.2 → Rep K p (Bf B0 p oa0) H' v r.1 → Q v H'
end

section
variable {X : Cx} {p : Addr} {e a b c : Expr} {pos : Pos}
/-! ### constants, names -/
def xC (d : D) : XM := fun _ _ S => some (d, S)
def xVar (i : Nat) : XM := fun _ env S => match env[i]? with
  | some (some (.sh d)) => some (d, S)
  | _ => none
theorem ie_c {R : RC} {v : V} {d : D} (h : PE X e (tC v)) (r : ∀ B H, Rep X.K p B H v d) : PE X e (tI X.K p (xC d R)) := h.imp fun σ H Q q => by
  obtain ⟨env, S, B0, oa, f, r', e1, k⟩ := q
  cases e1
  exact k v H f (Keep.refl p H) (r _ _)
theorem ie_var {R : RC} {i : Nat} (h : PE X e (tVar i)) : PE X e (tI X.K p (xVar i R)) := h.imp fun σ H Q q => by
  obtain ⟨env, S, B0, oa, f, r, e1, k⟩ := q
  unfold xVar at e1
  split at e1
  · rename_i d hd
    cases e1
    obtain ⟨v, ev, rv⟩ := f.sh i d hd
    exact ⟨v, ev, k v H f (Keep.refl p H) rv⟩
  · cases e1

/-! ### operations by values -/
abbrev HM (B : Addr → Prop) (H : Hp) : Prop := ∀ b, B b → ∃ o, H b = some o ∧ MutO o
theorem HM.new {B : Addr → Prop} {H : Hp} (h : HM B H) {b : Addr} (hn : H b = none) : ¬ B b := fun q => by
  obtain ⟨o, e, _⟩ := h b q
  rw [hn] at e
  cases e
def VR2 (K : PySem.W.Frag) (p : Addr) (r : R2) (g : D → D → Option D) : Prop := ∀ (B : Addr → Prop) (H : Hp) (x y : V) (d1 d2 d : D) (Q : VK), HM B H → Rep K p B H x d1 → Rep K p B H y d2 → g d1 d2 = some d →
  (∀ v H', Same H H' → Rep K p B H' v d → Q v H') → r x y H Q
def VR1 (K : PySem.W.Frag) (p : Addr) (r : V → Hp → VK → Prop) (g : D → Option D) : Prop := ∀ (B : Addr → Prop) (H : Hp) (x : V) (d1 d : D) (Q : VK), HM B H → Rep K p B H x d1 → g d1 = some d →
  (∀ v H', Same H H' → Rep K p B H' v d → Q v H') → r x H Q
def VRA (K : PySem.W.Frag) (p : Addr) (r : List V → Hp → VK → Prop) (g : List D → Option D) : Prop := ∀ (B : Addr → Prop) (H : Hp) (xs : List V) (ds : List D) (d : D) (Q : VK), HM B H → Reps K p B H xs ds → g ds = some d →
  (∀ v H', Same H H' → Rep K p B H' v d → Q v H') → r xs H Q
def xBin (g : D → D → Option D) (fa fb : XM) : XM := fun R env S => (fa R env S).bind fun x => (fb R env x.2).bind fun y => (g x.1 y.1).map fun d => (d, y.2)
def xUn (g : D → Option D) (fa : XM) : XM := fun R env S => (fa R env S).bind fun x => (g x.1).map fun d => (d, x.2)
def xApp (g : List D → Option D) (fa : AM) : XM := fun R env S => (fa R env S).bind fun x => (g x.1).map fun d => (d, x.2)

theorem bin_tI {r : R2} {g : D → D → Option D} {fa fb : XM} {R : RC} {K : PySem.W.Frag} (hg : VR2 K p r g) {σ : L2.St} {H : Hp} {Q : VK} (q : tI K p (xBin g fa fb R) σ H Q) :
    tI K p (fa R) σ H fun x H1 => tI K p (fb R) σ H1 fun y H2 => r x y H2 Q := by
  obtain ⟨env, S, B0, oa, f, w, e1, k⟩ := q
  unfold xBin at e1
  obtain ⟨x, ex, e1⟩ := Option.bind_eq_some_iff.mp e1
  obtain ⟨y, ey, e1⟩ := Option.bind_eq_some_iff.mp e1
  obtain ⟨d, ed, e1⟩ := Option.map_eq_some_iff.mp e1
  subst e1
  refine ⟨env, S, B0, oa, f, x, ex, fun v H1 f1 k1 r1 => ⟨env, _, B0, oa, f1, y, ey, fun u H2 f2 k2 r2 => ?_⟩⟩
  exact hg _ H2 v u _ _ d Q f2.mut (r1.keep f1 k2) r2 ed fun z H3 s3 r3 => k z H3 (f2.same s3) ((k1.trans k2).trans (Keep.of s3)) r3
theorem un_tI {r : V → Hp → VK → Prop} {g : D → Option D} {fa : XM} {R : RC} {K : PySem.W.Frag} (hg : VR1 K p r g) {σ : L2.St} {H : Hp} {Q : VK} (q : tI K p (xUn g fa R) σ H Q) :
    tI K p (fa R) σ H fun x H1 => r x H1 Q := by
  obtain ⟨env, S, B0, oa, f, w, e1, k⟩ := q
  unfold xUn at e1
  obtain ⟨x, ex, e1⟩ := Option.bind_eq_some_iff.mp e1
  obtain ⟨d, ed, e1⟩ := Option.map_eq_some_iff.mp e1
  subst e1
  refine ⟨env, S, B0, oa, f, x, ex, fun v H1 f1 k1 r1 => ?_⟩
  exact hg _ H1 v _ d Q f1.mut r1 ed fun z H3 s3 r3 => k z H3 (f1.same s3) (k1.trans (Keep.of s3)) r3
theorem app_tI {r : List V → Hp → VK → Prop} {g : List D → Option D} {fa : AM} {R : RC} {K : PySem.W.Frag} (hg : VRA K p r g) {σ : L2.St} {H : Hp} {Q : VK} (q : tI K p (xApp g fa R) σ H Q) :
    tAI K p (fa R) σ H fun xs H1 => r xs H1 Q := by
  obtain ⟨env, S, B0, oa, f, w, e1, k⟩ := q
  unfold xApp at e1
  obtain ⟨x, ex, e1⟩ := Option.bind_eq_some_iff.mp e1
  obtain ⟨d, ed, e1⟩ := Option.map_eq_some_iff.mp e1
  subst e1
  refine ⟨env, S, B0, oa, f, x, ex, fun vs H1 f1 k1 r1 => ?_⟩
  exact hg _ H1 vs _ d Q f1.mut r1 ed fun z H3 s3 r3 => k z H3 (f1.same s3) (k1.trans (Keep.of s3)) r3
theorem ie_bin {op : Operator} {r : R2} {g : D → D → Option D} {fa fb : XM} {R : RC} (ho : OpR X (binaryOp op) r) (hg : VR2 X.K p r g) (ha : PE X a (tI X.K p (fa R))) (hb : PE X b (tI X.K p (fb R))) :
    PE X (.BinOp a op b pos) (tI X.K p (xBin g fa fb R)) := (pe_op ho ha hb).imp fun σ H Q q => bin_tI hg q
theorem ie_un {op : UnaryOp} {r : V → Hp → VK → Prop} {g : D → Option D} {fa : XM} {R : RC} (ho : UnR X (unaryOp op) r) (hg : VR1 X.K p r g) (ha : PE X a (tI X.K p (fa R))) :
    PE X (.UnaryOp op a pos) (tI X.K p (xUn g fa R)) := (pe_un ho ha).imp fun σ H Q q => un_tI hg q
theorem ie_cmp {op : CmpOp} {r : R2} {g : D → D → Option D} {fa fb : XM} {R : RC} (ho : OpR X (compareOp op) r) (hg : VR2 X.K p r g) (ha : PE X a (tI X.K p (fa R))) (hb : PE X b (tI X.K p (fb R))) (hm : behindInMarks op b = false) :
    PE X (.Compare a [op] [b] pos) (tI X.K p (xBin g fa fb R)) := (pe_cmpR ho ha hb hm).imp fun σ H Q q => bin_tI hg q
theorem ie_ix {r : R2} {g : D → D → Option D} {fa fb : XM} {R : RC} (ho : IxR X r) (hg : VR2 X.K p r g) (ha : PE X a (tI X.K p (fa R))) (hb : PE X b (tI X.K p (fb R))) (hm : PlainIx b) :
    PE X (.Subscript a b pos) (tI X.K p (xBin g fa fb R)) := (pe_ix ho ha hb hm).imp fun σ H Q q => bin_tI hg q

/-! ### tests -/
/-- a value's truth -/
def truD : D → Option Bool
  | .bl b => some b
  | .non => some false
  | .int i => some (i != 0)
  | .tup xs => some (!xs.isEmpty)
  | .lst xs => some (!xs.isEmpty)
  | _ => none
def mTru (f : XM) : TM := fun R env S => (f R env S).bind fun x => (truD x.1).map fun b => (b, x.2)
/-- a test whose value is a truth value -/
def blD : D → Option Bool
  | .bl b => some b
  | _ => none
def mBl (f : XM) : TM := fun R env S => (f R env S).bind fun x => (blD x.1).map fun b => (b, x.2)
def mNot (f : TM) : TM := fun R env S => (f R env S).map fun x => (!x.1, x.2)
def mAnd (f g : TM) : TM := fun R env S => (f R env S).bind fun x => if x.1 = true then g R env x.2 else some (false, x.2)
def mOr (f g : TM) : TM := fun R env S => (f R env S).bind fun x => if x.1 = true then some (true, x.2) else g R env x.2
/-- < of < : both, the middle once -/
def mChain (g g' : D → D → Option D) (fa fb fc : XM) : TM := fun R env S => (fa R env S).bind fun x => (fb R env x.2).bind fun y => ((g x.1 y.1).bind blD).bind fun k =>
  if k = true then (fc R env y.2).bind fun z => ((g' y.1 z.1).bind blD).map fun k' => (k', z.2) else some (false, y.2)
def xChain (g g' : D → D → Option D) (fa fb fc : XM) : XM := fun R env S => (fa R env S).bind fun x => (fb R env x.2).bind fun y => ((g x.1 y.1).bind blD).bind fun k =>
  if k = true then (fc R env y.2).bind fun z => (g' y.1 z.1).map fun d => (d, z.2) else some (.bl false, y.2)

theorem blD_some {d : D} {b : Bool} (h : blD d = some b) : d = .bl b := by
  cases d <;> simp [blD] at h
  subst h
  rfl
theorem rep_bl {K : PySem.W.Frag} {B : Addr → Prop} {H : Hp} {v : V} {b : Bool} (h : Rep K p B H v (.bl b)) : v = .bl b := by
  cases h
  rfl
theorem it_bl {f : XM} {R : RC} (h : PT X e (tTest (tI X.K p (f R)))) : PT X e (tTI X.K p (mBl f R)) := h.imp fun σ H Q q => by
  obtain ⟨env, S, B0, oa, f0, w, e1, k⟩ := q
  unfold mBl at e1
  obtain ⟨x, ex, e1⟩ := Option.bind_eq_some_iff.mp e1
  obtain ⟨b, eb, e1⟩ := Option.map_eq_some_iff.mp e1
  subst e1
  refine ⟨env, S, B0, oa, f0, x, ex, fun v H1 f1 k1 r1 => ?_⟩
  rw [blD_some eb] at r1
  exact ⟨b, rep_bl r1, k H1 f1 k1⟩
theorem pt_tB {t : TE} (h : PT X e (tB t)) : PT X e (tTest t) := h
/-- the test by an expression's truth -/
theorem it_tru {f : XM} {R : RC} (h : PE X e (tI X.K p (f R))) (he : ∀ whole, isTrue e X.env whole = (do let v ← whole; standAt e.pos; holding [v] (truthy v))) : PT X e (tTI X.K p (mTru f R)) := (pt_truth h he).imp fun σ H Q q => by
  obtain ⟨env, S, B0, oa, f0, w, e1, k⟩ := q
  unfold mTru at e1
  obtain ⟨x, ex, e1⟩ := Option.bind_eq_some_iff.mp e1
  obtain ⟨b, eb, e1⟩ := Option.map_eq_some_iff.mp e1
  subst e1
  refine ⟨env, S, B0, oa, f0, x, ex, fun v H1 f1 k1 r1 => ⟨b, ?_, k H1 f1 k1⟩⟩
  generalize hx : x.1 = d at r1 eb
  cases r1 with
  | non => cases eb; exact (rfl : false = false)
  | bl b' => exact (Option.some.inj eb).symm
  | int i => cases eb; exact (rfl : (i != 0) = (i != 0))
  | str _ => cases eb
  | ty _ => cases eb
  | tup hs hr =>
    cases eb
    refine .inr (.inl ⟨_, hs, ?_⟩)
    cases hr <;> rfl
  | lst hs hn hr =>
    cases eb
    refine .inl ⟨_, .inl (.inl hs), ?_⟩
    cases hr <;> rfl
  | dic _ _ _ _ => cases eb
  | rng _ _ => cases eb
  | pool => cases eb
theorem it_not {f : TM} {R : RC} (h : PT X a (tTI X.K p (f R))) : PT X (.UnaryOp .Not a pos) (tTI X.K p (mNot f R)) := (pt_not h).imp fun σ H Q q => by
  obtain ⟨env, S, B0, oa, f0, w, e1, k⟩ := q
  unfold mNot at e1
  obtain ⟨x, ex, e1⟩ := Option.map_eq_some_iff.mp e1
  subst e1
  exact ⟨env, S, B0, oa, f0, x, ex, fun H1 f1 k1 => k H1 f1 k1⟩
theorem iw_and1 {f : TM} {R : RC} (h : PT X a (tTI X.K p (f R))) : PW X (.BoolOp .And [a] pos) (tTI X.K p (f R)) := pw_and1 h
theorem iw_or1 {f : TM} {R : RC} (h : PT X a (tTI X.K p (f R))) : PW X (.BoolOp .Or [a] pos) (tTI X.K p (f R)) := pw_or1 h
theorem iw_and {f g : TM} {R : RC} {rest : List Expr} (h : PT X a (tTI X.K p (f R))) (h2 : PW X (.BoolOp .And (b :: rest) pos) (tTI X.K p (g R))) : PW X (.BoolOp .And (a :: b :: rest) pos) (tTI X.K p (mAnd f g R)) := (pw_and h h2).imp fun σ H Q q => by
  obtain ⟨env, S, B0, oa, f0, w, e1, k⟩ := q
  unfold mAnd at e1
  obtain ⟨x, ex, e1⟩ := Option.bind_eq_some_iff.mp e1
  refine ⟨env, S, B0, oa, f0, x, ex, fun H1 f1 k1 => ?_⟩
  by_cases hx : x.1 = true
  · rw [if_pos hx] at e1
    rw [if_pos hx]
    exact ⟨env, _, B0, oa, f1, w, e1, fun H2 f2 k2 => k H2 f2 (k1.trans k2)⟩
  · rw [if_neg hx] at e1
    rw [if_neg hx]
    cases e1
    exact k H1 f1 k1
theorem iw_or {f g : TM} {R : RC} {rest : List Expr} (h : PT X a (tTI X.K p (f R))) (h2 : PW X (.BoolOp .Or (b :: rest) pos) (tTI X.K p (g R))) : PW X (.BoolOp .Or (a :: b :: rest) pos) (tTI X.K p (mOr f g R)) := (pw_or h h2).imp fun σ H Q q => by
  obtain ⟨env, S, B0, oa, f0, w, e1, k⟩ := q
  unfold mOr at e1
  obtain ⟨x, ex, e1⟩ := Option.bind_eq_some_iff.mp e1
  refine ⟨env, S, B0, oa, f0, x, ex, fun H1 f1 k1 => ?_⟩
  by_cases hx : x.1 = true
  · rw [if_pos hx] at e1
    rw [if_pos hx]
    cases e1
    exact k H1 f1 k1
  · rw [if_neg hx] at e1
    rw [if_neg hx]
    exact ⟨env, _, B0, oa, f1, w, e1, fun H2 f2 k2 => k H2 f2 (k1.trans k2)⟩
theorem chain_tI {r r' : R2} {g g' : D → D → Option D} {fa fb fc : XM} {R : RC} {K : PySem.W.Frag} (hg : VR2 K p r g) (hg' : VR2 K p r' g') {σ : L2.St} {H : Hp} {Q : VK} (q : tI K p (xChain g g' fa fb fc R) σ H Q) :
    tChain r r' (tI K p (fa R)) (tI K p (fb R)) (tI K p (fc R)) σ H Q := by
  obtain ⟨env, S, B0, oa, f, w, e1, k⟩ := q
  unfold xChain at e1
  obtain ⟨x, ex, e1⟩ := Option.bind_eq_some_iff.mp e1
  obtain ⟨y, ey, e1⟩ := Option.bind_eq_some_iff.mp e1
  obtain ⟨c0, ec, e1⟩ := Option.bind_eq_some_iff.mp e1
  obtain ⟨d, ed, ec⟩ := Option.bind_eq_some_iff.mp ec
  have hd := blD_some ec
  subst hd
  refine ⟨env, S, B0, oa, f, x, ex, fun v H1 f1 k1 r1 => ⟨env, _, B0, oa, f1, y, ey, fun u H2 f2 k2 r2 => ?_⟩⟩
  refine hg _ H2 v u _ _ _ _ f2.mut (r1.keep f1 k2) r2 ed fun z H3 s3 r3 => ⟨c0, rep_bl r3, ?_⟩
  by_cases hc : c0 = true
  · rw [if_pos hc] at e1
    rw [if_pos hc]
    obtain ⟨y3, e3, e1⟩ := Option.bind_eq_some_iff.mp e1
    obtain ⟨d4, e4, e1⟩ := Option.map_eq_some_iff.mp e1
    subst e1
    have f3 := f2.same s3
    refine ⟨env, _, B0, oa, f3, y3, e3, fun u4 H4 f4 k4 r4 => ?_⟩
    exact hg' _ H4 u u4 _ _ _ _ f4.mut ((r2.same s3).keep f3 k4) r4 e4 fun z5 H5 s5 r5 => k z5 H5 (f4.same s5) ((((k1.trans k2).trans (Keep.of s3)).trans k4).trans (Keep.of s5)) r5
  · rw [if_neg hc] at e1
    rw [if_neg hc]
    cases e1
    exact k _ H3 (f2.same s3) ((k1.trans k2).trans (Keep.of s3)) (.bl false)

/-! ### and, or, not, if as values -/
def xAnd (f g : XM) : XM := fun R env S => (f R env S).bind fun x => (blD x.1).bind fun c => if c = true then g R env x.2 else some (.bl false, x.2)
def xOr (f g : XM) : XM := fun R env S => (f R env S).bind fun x => (blD x.1).bind fun c => if c = true then some (.bl true, x.2) else g R env x.2
def xNot (f : XM) : XM := fun R env S => (f R env S).bind fun x => (blD x.1).map fun c => (.bl (!c), x.2)
def xIf (t : TM) (f g : XM) : XM := fun R env S => (t R env S).bind fun x => if x.1 = true then f R env x.2 else g R env x.2
theorem ie_and {f g : XM} {R : RC} {rest : List Expr} (h : PE X a (tI X.K p (f R))) (h2 : PE X (.BoolOp .And (b :: rest) pos) (tI X.K p (g R))) : PE X (.BoolOp .And (a :: b :: rest) pos) (tI X.K p (xAnd f g R)) := (pe_and h h2).imp fun σ H Q q => by
  obtain ⟨env, S, B0, oa, f0, w, e1, k⟩ := q
  unfold xAnd at e1
  obtain ⟨x, ex, e1⟩ := Option.bind_eq_some_iff.mp e1
  obtain ⟨c, ec, e1⟩ := Option.bind_eq_some_iff.mp e1
  refine ⟨env, S, B0, oa, f0, x, ex, fun v H1 f1 k1 r1 => ?_⟩
  rw [blD_some ec] at r1
  refine ⟨c, rep_bl r1, ?_⟩
  by_cases hx : c = true
  · rw [if_pos hx] at e1
    rw [if_pos hx]
    exact ⟨env, _, B0, oa, f1, w, e1, fun v2 H2 f2 k2 r2 => k v2 H2 f2 (k1.trans k2) r2⟩
  · rw [if_neg hx] at e1
    rw [if_neg hx]
    cases e1
    exact k _ H1 f1 k1 (.bl false)
theorem ie_or {f g : XM} {R : RC} {rest : List Expr} (h : PE X a (tI X.K p (f R))) (h2 : PE X (.BoolOp .Or (b :: rest) pos) (tI X.K p (g R))) : PE X (.BoolOp .Or (a :: b :: rest) pos) (tI X.K p (xOr f g R)) := (pe_or h h2).imp fun σ H Q q => by
  obtain ⟨env, S, B0, oa, f0, w, e1, k⟩ := q
  unfold xOr at e1
  obtain ⟨x, ex, e1⟩ := Option.bind_eq_some_iff.mp e1
  obtain ⟨c, ec, e1⟩ := Option.bind_eq_some_iff.mp e1
  refine ⟨env, S, B0, oa, f0, x, ex, fun v H1 f1 k1 r1 => ?_⟩
  rw [blD_some ec] at r1
  refine ⟨c, rep_bl r1, ?_⟩
  by_cases hx : c = true
  · rw [if_pos hx] at e1
    rw [if_pos hx]
    cases e1
    exact k _ H1 f1 k1 (.bl true)
  · rw [if_neg hx] at e1
    rw [if_neg hx]
    exact ⟨env, _, B0, oa, f1, w, e1, fun v2 H2 f2 k2 r2 => k v2 H2 f2 (k1.trans k2) r2⟩
theorem ie_not {f : XM} {R : RC} (h : PE X a (tI X.K p (f R))) : PE X (.UnaryOp .Not a pos) (tI X.K p (xNot f R)) := (pe_not h).imp fun σ H Q q => by
  obtain ⟨env, S, B0, oa, f0, w, e1, k⟩ := q
  unfold xNot at e1
  obtain ⟨x, ex, e1⟩ := Option.bind_eq_some_iff.mp e1
  obtain ⟨c, ec, e1⟩ := Option.map_eq_some_iff.mp e1
  subst e1
  refine ⟨env, S, B0, oa, f0, x, ex, fun v H1 f1 k1 r1 => ?_⟩
  rw [blD_some ec] at r1
  exact ⟨c, rep_bl r1, k _ H1 f1 k1 (.bl _)⟩
theorem ie_if {t : TM} {f g : XM} {R : RC} (ht : PT X c (tTI X.K p (t R))) (h : PE X a (tI X.K p (f R))) (h2 : PE X b (tI X.K p (g R))) : PE X (.IfExp c a b pos) (tI X.K p (xIf t f g R)) := (pe_ifExp ht h h2).imp fun σ H Q q => by
  obtain ⟨env, S, B0, oa, f0, w, e1, k⟩ := q
  unfold xIf at e1
  obtain ⟨x, ex, e1⟩ := Option.bind_eq_some_iff.mp e1
  refine ⟨env, S, B0, oa, f0, x, ex, fun H1 f1 k1 => ?_⟩
  by_cases hx : x.1 = true
  · rw [if_pos hx] at e1
    rw [if_pos hx]
    exact ⟨env, _, B0, oa, f1, w, e1, fun v2 H2 f2 k2 r2 => k v2 H2 f2 (k1.trans k2) r2⟩
  · rw [if_neg hx] at e1
    rw [if_neg hx]
    exact ⟨env, _, B0, oa, f1, w, e1, fun v2 H2 f2 k2 r2 => k v2 H2 f2 (k1.trans k2) r2⟩

/-! ### arguments, displays -/
def aNil : AM := fun _ _ S => some ([], S)
def aCons (f : XM) (g : AM) : AM := fun R env S => (f R env S).bind fun x => (g R env x.2).map fun y => (x.1 :: y.1, y.2)
theorem ia_nil {R : RC} : PA X [] (tAI X.K p (aNil R)) := pa_nil.imp fun σ H Q q => by
  obtain ⟨env, S, B0, oa, f0, w, e1, k⟩ := q
  cases e1
  exact k [] H f0 (Keep.refl p H) .nil
theorem ia_cons {f : XM} {g : AM} {R : RC} {es : List Expr} (h : PE X e (tI X.K p (f R))) (h2 : PA X es (tAI X.K p (g R))) (hs : starEach (e :: es) X.env = (false, eval e X.env) :: starEach es X.env) : PA X (e :: es) (tAI X.K p (aCons f g R)) := (pa_cons h h2 hs).imp fun σ H Q q => by
  obtain ⟨env, S, B0, oa, f0, w, e1, k⟩ := q
  unfold aCons at e1
  obtain ⟨x, ex, e1⟩ := Option.bind_eq_some_iff.mp e1
  obtain ⟨y, ey, e1⟩ := Option.map_eq_some_iff.mp e1
  subst e1
  exact ⟨env, S, B0, oa, f0, x, ex, fun v H1 f1 k1 r1 => ⟨env, _, B0, oa, f1, y, ey, fun vs H2 f2 k2 r2 => k _ H2 f2 (k1.trans k2) (.cons (r1.keep f1 k2) r2)⟩⟩
theorem same_new {H : Hp} {a : Addr} {o : HO} (h : H a = none) : Same H (upd H a o) := fun b u q => by
  rw [upd_ne (ne_of_none q h)]
  exact q
/-- a tuple is laid -/
theorem Reps.tup {K : PySem.W.Frag} {B : Addr → Prop} {H : Hp} {vs : List V} {ds : List D} {a : Addr} (r : Reps K p B H vs ds) (hn : H a = none) : Rep K p B (upd H a (.tup vs)) (.ref a) (.tup ds) :=
  .tup (.inl (.inl upd_same)) (r.same (same_new hn))
theorem Reps.lst {K : PySem.W.Frag} {B : Addr → Prop} {H : Hp} {vs : List V} {ds : List D} {a : Addr} (r : Reps K p B H vs ds) (hm : HM B H) (hn : H a = none) : Rep K p B (upd H a (.lst vs)) (.ref a) (.lst ds) :=
  .lst upd_same (hm.new hn) (r.same (same_new hn))
def xTup (f : AM) : XM := fun R env S => (f R env S).bind fun x => if x.1.length ≤ sizeLine then some (.tup x.1, x.2) else none
/-- a new list -/
abbrev LM := RC → En → List D → Option (List D × List D)
def lDisp (f : AM) : LM := fun R env S => (f R env S).bind fun x => if x.1.length ≤ sizeLine then some x else none
/-- a new list taken as data -/
def xLst (f : LM) : XM := fun R env S => (f R env S).map fun x => (.lst x.1, x.2)
theorem ie_tup {f : AM} {R : RC} {es : List Expr} {x1} (h : PA X es (tAI X.K p (f R))) : PE X (.Tuple es x1 pos) (tI X.K p (xTup f R)) := (pe_tup h).imp fun σ H Q q => by
  obtain ⟨env, S, B0, oa, f0, w, e1, k⟩ := q
  unfold xTup at e1
  obtain ⟨x, ex, e1⟩ := Option.bind_eq_some_iff.mp e1
  by_cases hl : x.1.length ≤ sizeLine
  · rw [if_pos hl] at e1
    cases e1
    refine ⟨env, S, B0, oa, f0, x, ex, fun vs H1 f1 k1 r1 => ⟨by rw [r1.length]; exact hl, fun a ha => ?_⟩⟩
    exact k _ _ (f1.same (same_new ha)) (k1.trans (Keep.of (same_new ha))) (r1.tup ha)
  · rw [if_neg hl] at e1
    cases e1
/-- what a new list's reading gives: nothing held it -/
theorem lst_tLI {f : LM} {R : RC} {K : PySem.W.Frag} {σ : L2.St} {H : Hp} {Q : VK} (q : tI K p (xLst f R) σ H Q) : tLI K p (f R) σ H Q := by
  obtain ⟨env, S, B0, oa, f0, w, e1, k⟩ := q
  unfold xLst at e1
  obtain ⟨x, ex, e1⟩ := Option.map_eq_some_iff.mp e1
  subst e1
  refine ⟨env, S, B0, oa, f0, x, ex, fun a vs H1 f1 k1 ha hv r1 => ?_⟩
  have nb : ¬ Bf B0 p oa a := f0.new ha
  refine k _ H1 f1.unshun k1 (.lst hv nb (r1.less fun b h => ?_))
  rcases h with h | h
  · exact .inl (.inl h)
  · exact .inr h
theorem ie_lst {f : LM} {R : RC} (h : PE X e (tLI X.K p (f R))) : PE X e (tI X.K p (xLst f R)) := h.imp fun σ H Q q => lst_tLI q
/-- a new list by an operation on values that lays it -/
theorem new_tLI {K : PySem.W.Frag} {B0 : Addr → Prop} {oa : Oa} {env : En} {σ : L2.St} {H : Hp} {S : List D} (f : FI K p B0 oa env σ H S) {vs : List V} {ds : List D} {a : Addr} (ha : H a = none) (r : Reps K p (Bf B0 p oa) H vs ds) :
    FI K p (fun b => B0 b ∨ b = a) oa env σ (upd H a (.lst vs)) S ∧ Reps K p (Bf (fun b => B0 b ∨ b = a) p oa) (upd H a (.lst vs)) vs ds := by
  refine ⟨f.shun ha trivial, r.move (fun b o _ q => same_new ha b o q) (fun b h => ?_) f.mut⟩
  rcases h with (h | h) | h | h
  · exact .inl (.inl h)
  · exact .inr (h ▸ ha)
  · exact .inl (.inr (.inl h))
  · exact .inl (.inr (.inr h))
theorem il_disp {f : AM} {R : RC} {es : List Expr} (h : PA X es (tAI X.K p (f R))) : PE X (.List es pos) (tLI X.K p (lDisp f R)) := (pe_lst h).imp fun σ H Q q => by
  obtain ⟨env, S, B0, oa, f0, w, e1, k⟩ := q
  unfold lDisp at e1
  obtain ⟨x, ex, e1⟩ := Option.bind_eq_some_iff.mp e1
  by_cases hl : x.1.length ≤ sizeLine
  · rw [if_pos hl] at e1
    have e2 : x = w := Option.some.inj e1
    subst e2
    refine ⟨env, S, B0, oa, f0, x, ex, fun vs H1 f1 k1 r1 => ⟨by rw [r1.length]; exact hl, fun a ha => ?_⟩⟩
    obtain ⟨f2, r2⟩ := new_tLI f1 ha r1
    refine k a vs _ f2 (k1.trans (Keep.of (same_new ha))) ?_ upd_same r2
    cases hq : H a with
    | none => rfl
    | some o =>
      by_cases hp : a = p
      · subst hp
        exact absurd ha f1.pool.some
      · rw [k1 a o hp hq] at ha
        cases ha
  · rw [if_neg hl] at e1
    cases e1

/-! ### calls of defs -/
def xCall (x : Str) (f : AM) : XM := fun R env S => (f R env S).bind fun y => R x y.1 y.2
theorem call_tI {K : PySem.W.Frag} {f : AM} {R : RC} {x : Str} {n : Nat} {E : XK} {σ : L2.St} {H : Hp} {Q : VK} (hn : ∀ env S r, f R env S = some r → r.1.length = n) (q : tI K p (xCall x f R) σ H Q) : tCall (spI K p n (R x)) [] E (tAI K p (f R)) σ H Q := by
  obtain ⟨env, S, B0, oa, f0, w, e1, k⟩ := q
  unfold xCall at e1
  obtain ⟨y, ey, e1⟩ := Option.bind_eq_some_iff.mp e1
  refine ⟨env, S, B0, oa, f0, y, ey, fun vs H1 f1 k1 r1 => ?_⟩
  have hb : ∀ b, Bf (Bf B0 p oa) p oa0 b → Bf B0 p oa b := fun b h => by
    rcases h with h | h | h
    · exact h
    · exact .inr (.inl h)
    · exact absurd h own0
  have hb' : ∀ b, Bf B0 p oa b → Bf (Bf B0 p oa) p oa0 b := fun b h => .inl h
  obtain ⟨ps, e2, r2⟩ := f1.pool
  refine ⟨y.1, y.2, Bf B0 p oa, by rw [List.append_nil, r1.length]; exact hn _ _ _ ey, by rw [List.append_nil]; exact r1.less hb, f1.mut, ⟨ps, e2, r2.less hb⟩, w, e1, fun v H2 k2 p2 r3 => ?_⟩
  obtain ⟨ps2, e3, r4⟩ := p2
  exact k v H2 (f1.keep k2 ⟨ps2, e3, r4.less hb'⟩) (k1.trans k2) (r3.less hb')
theorem ie_call {f : AM} {R : RC} {x : Str} {n : Nat} {es : List Expr} {fa : Addr} {fd : FuncData} {ps : List Str} {k : Nat} {pf : Pos} (F : FnOk X.prog X.w X.K X.mg X.base CX0 k fa fd ps (spI X.K p n (R x))) (hr : Room k X.A) (hg : Gl X x) (hm : X.mg x = some (.ref fa)) (hk : PySem.W.keepIn X.K (.ref fa) = true) (hb : Binds X.K fd ps [])
    (hn : ∀ env S r, f R env S = some r → r.1.length = n) (ha : PA X (e :: es) (tAI X.K p (f R))) (hdb : (x == ("__debug__" : Str)) = false) (he : starEach (e :: es) X.env = (false, eval e X.env) :: starEach es X.env) (hpl : (backTo pos (starEach es X.env)).any (·.1) = false) :
    PE X (.Call (.Name x pf) (e :: es) [] pos) (tI X.K p (xCall x f R)) := (pe_call F hr hg hm hk hb .nil pass0 ha hdb he hpl).imp fun σ H Q q => call_tI hn q
theorem ie_call0 {R : RC} {x : Str} {fa : Addr} {fd : FuncData} {ps : List Str} {k : Nat} {pf : Pos} (F : FnOk X.prog X.w X.K X.mg X.base CX0 k fa fd ps (spI X.K p 0 (R x))) (hr : Room k X.A) (hg : Gl X x) (hm : X.mg x = some (.ref fa)) (hk : PySem.W.keepIn X.K (.ref fa) = true) (hb : Binds X.K fd ps [])
    (hdb : (x == ("__debug__" : Str)) = false) : PE X (.Call (.Name x pf) [] [] pos) (tI X.K p (xCall x aNil R)) := (pe_call0 F hr hg hm hk hb .nil pass0 hdb).imp fun σ H Q q => by
  have z := call_tI (E := E0) (fun env S r h => by cases h; rfl) q
  obtain ⟨env, S, B0, oa, f0, w, e1, k⟩ := z
  cases e1
  exact k [] H f0 (Keep.refl p H) .nil
/-- a builtin, a builtin class called -/
theorem ie_callB {id : String} {r : List V → Hp → VK → Prop} {g : List D → Option D} {f : AM} {R : RC} {x : Str} {es : List Expr} {pf : Pos} (hc : CallR X (.builtin id) r) (hv : VRA X.K p r g) (hg : Gl X x) (hm : X.mg x = none) (hb : bootBuiltins x = some (.builtin id)) (ha : PA X (e :: es) (tAI X.K p (f R)))
    (hn : x ≠ "__name__") (hdb : (x == ("__debug__" : Str)) = false) (he : starEach (e :: es) X.env = (false, eval e X.env) :: starEach es X.env) (hpl : (backTo pos (starEach es X.env)).any (·.1) = false) :
    PE X (.Call (.Name x pf) (e :: es) [] pos) (tI X.K p (xApp g f R)) := (pe_callB hc hg hm hb ha hn hdb he hpl).imp fun σ H Q q => app_tI hv q
theorem ie_callTy {T : String} {r : List V → Hp → VK → Prop} {g : List D → Option D} {f : AM} {R : RC} {x : Str} {es : List Expr} {pf : Pos} (hc : CallR X (.type T) r) (hv : VRA X.K p r g) (hg : Gl X x) (hm : X.mg x = none) (hb : bootBuiltins x = some (.type T)) (ha : PA X (e :: es) (tAI X.K p (f R)))
    (hn : x ≠ "__name__") (hdb : (x == ("__debug__" : Str)) = false) (he : starEach (e :: es) X.env = (false, eval e X.env) :: starEach es X.env) (hpl : (backTo pos (starEach es X.env)).any (·.1) = false) :
    PE X (.Call (.Name x pf) (e :: es) [] pos) (tI X.K p (xApp g f R)) := (pe_callTy hc hg hm hb ha hn hdb he hpl).imp fun σ H Q q => app_tI hv q
end
end Ip

set_option maxHeartbeats 1000000
/-! IpC: what is walked, targets, statements. -/
namespace Ip
open PySem L2

inductive Fl where
  | nx | ret (d : D) | bk | ct
abbrev SM := RC → En → List D → Option (Fl × En × List D)
abbrev IM := RC → En → List D → Option (List D × List D)
abbrev RM := RC → En → List D → Option (SV × List D)

section
variable (K : PySem.W.Frag) (p : Addr)
def EndI (B0 : Addr → Prop) (oa : Oa) (H : Hp) (Dn : Ends) (fl : Fl) (env' : En) (S' : List D) : Prop := match fl with
  | .nx => ∀ σ' H' oa', FI K p B0 oa' env' σ' H' S' → Mv p oa oa' H H' → Dn.nx σ' H'
  | .bk => ∀ σ' H' oa', FI K p B0 oa' env' σ' H' S' → Mv p oa oa' H H' → Dn.bk σ' H'
  | .ct => ∀ σ' H' oa', FI K p B0 oa' env' σ' H' S' → Mv p oa oa' H H' → Dn.ct σ' H'
  | .ret d => ∀ v H', Mv p oa oa0 H H' → PoolOk K p (Bf B0 p oa0) H' S' → Rep K p (Bf B0 p oa0) H' v d → Dn.rt v H'
/-- a statement's reading by its meaning -/
def tIS (f : En → List D → Option (Fl × En × List D)) : TS := fun Dn σ H => ∃ env S B0 oa, FI K p B0 oa env σ H S ∧ ∃ r, f env S = some r ∧ EndI K p B0 oa H Dn r.1 r.2.1 r.2.2
theorem EndI.mv {K : PySem.W.Frag} {p : Addr} {B0 : Addr → Prop} {oa oa' : Oa} {H H' : Hp} {Dn : Ends} {fl : Fl} {env' : En} {S' : List D} (e : EndI K p B0 oa H Dn fl env' S') (m : Mv p oa oa' H H') : EndI K p B0 oa' H' Dn fl env' S' := by
  cases fl with
  | nx => exact fun σ' H2 oa2 f m2 => e σ' H2 oa2 f (m.trans m2)
  | bk => exact fun σ' H2 oa2 f m2 => e σ' H2 oa2 f (m.trans m2)
  | ct => exact fun σ' H2 oa2 f m2 => e σ' H2 oa2 f (m.trans m2)
  | ret d => exact fun v H2 m2 => e v H2 (m.trans m2)

/-- what an iterator gives: the data ds, from now on -/
def JOk (B : Addr → Prop) (H1 : Hp) (J : It) (ds : List D) : Prop := ∀ (B' : Addr → Prop) (H : Hp), (∀ b o, ¬ B b → H1 b = some o → H b = some o) → (∀ b, B' b → B b ∨ H1 b = none) → HM B' H →
  J.stop ds.length H ∧ ∀ (i : Nat) d, ds[i]? = some d → J.go i H ∧ ∀ x H', J.yld i H x H' → Same H H' ∧ Rep K p B' H' x d
def tII (f : En → List D → Option (List D × List D)) : TI := fun σ H R => ∃ env S B0 oa, FI K p B0 oa env σ H S ∧ ∃ r, f env S = some r ∧
  ∀ J H1, FI K p B0 oa env σ H1 r.2 → Keep p H H1 → JOk K p (Bf B0 p oa) H1 J r.1 → R J H1
end

section
variable {K : PySem.W.Frag} {p : Addr} {B : Addr → Prop} {H1 : Hp}
theorem jok_list {a : Addr} {vs : List V} {ds : List D} (h : H1 a = some (.lst vs)) (nb : ¬ B a) (r : Reps K p B H1 vs ds) (hm : HM B H1) : JOk K p B H1 (Itl K a) ds := fun B' H k hb hm' => by
  have hq : SqL K H a vs := .inl (.inl (k _ _ nb h))
  have r' : Reps K p B' H vs ds := r.move k hb hm
  have uq : ∀ ws, SqL K H a ws → ∀ (i : Nat) v, vs[i]? = some v → ∀ x, (∀ xs, SqL K H a xs → xs[i]? = some x) → x = v := fun ws _ i v e x f => by
    have := f vs hq
    rw [e] at this
    exact (Option.some.inj this).symm
  refine ⟨⟨vs, hq, by rw [r'.length]; exact Nat.le_refl _⟩, fun i d e => ?_⟩
  obtain ⟨v, ev, rv⟩ := r'.get e
  refine ⟨⟨vs, v, hq, ev⟩, fun x H' y => ?_⟩
  obtain ⟨rfl, f⟩ := y
  rw [uq vs hq i v ev x f]
  exact ⟨Same.refl _, rv⟩
theorem sqT_move {H : Hp} {a : Addr} {vs : List V} (h : SqT K H1 a vs) (k : ∀ b o, ¬ B b → H1 b = some o → H b = some o) (hm : HM B H1) : SqT K H a vs := by
  rcases h with (h | ⟨o, h⟩) | h
  · refine .inl (.inl (k _ _ (fun z => ?_) h))
    obtain ⟨o, e, m⟩ := hm a z
    rw [h] at e
    cases e
    exact m
  · refine .inl (.inr ⟨o, k _ _ (fun z => ?_) h⟩)
    obtain ⟨o', e, m⟩ := hm a z
    rw [h] at e
    cases e
    exact m
  · exact .inr h
theorem jok_tup {a : Addr} {vs : List V} {ds : List D} (h : SqT K H1 a vs) (r : Reps K p B H1 vs ds) (hm : HM B H1) : JOk K p B H1 (Itt K a) ds := fun B' H k hb hm' => by
  have hq : SqT K H a vs := sqT_move h k hm
  have r' : Reps K p B' H vs ds := r.move k hb hm
  refine ⟨⟨vs, hq, by rw [r'.length]; exact Nat.le_refl _⟩, fun i d e => ?_⟩
  obtain ⟨v, ev, rv⟩ := r'.get e
  refine ⟨⟨vs, v, hq, ev⟩, fun x H' y => ?_⟩
  obtain ⟨rfl, f⟩ := y
  have := f vs hq
  rw [ev] at this
  cases this
  exact ⟨Same.refl _, rv⟩
def irs (lo : Int) (n : Nat) : List D := (List.range n).map fun (i : Nat) => D.int (lo + (i : Int))
theorem irs_length (lo : Int) (n : Nat) : (irs lo n).length = n := by
  unfold irs
  rw [List.length_map, List.length_range]
theorem jok_rng {lo : Int} {n : Nat} : JOk K p B H1 (Itr lo n) (irs lo n) := fun B' H k hb hm' => by
  refine ⟨by rw [irs_length]; exact Nat.le_refl n, fun i d e => ?_⟩
  obtain ⟨hi, _⟩ := List.getElem?_eq_some_iff.mp e
  rw [irs_length] at hi
  refine ⟨hi, fun x H' y => ?_⟩
  obtain ⟨rfl, rfl⟩ := y
  refine ⟨Same.refl _, ?_⟩
  unfold irs at e
  rw [List.getElem?_map, List.getElem?_range hi] at e
  cases e
  exact .int _
end

section
variable {X : Cx} {p : Addr} {tg e a b c : Expr} {pos : Pos}
theorem _root_.L2.PI.imp {t t' : TI} (h : PI X tg e t) (f : ∀ σ H R, t' σ H R → t σ H R) : PI X tg e t' := ⟨fun pins s σ H R I q => h.run pins s σ H R I (f σ H R q)⟩
/-! ### what is walked -/
def itD : D → Option (List D)
  | .lst xs => some xs
  | .tup xs => some xs
  | .rng lo hi => if -(2 ^ 62) ≤ lo ∧ lo < 2 ^ 62 ∧ -(2 ^ 62) ≤ hi ∧ hi < 2 ^ 62 then some (irs lo (hi - lo).toNat) else none
  | _ => none
def iOf (f : XM) : IM := fun R env S => (f R env S).bind fun x => (itD x.1).map fun ds => (ds, x.2)
/-- a list, a tuple, a range, by its value -/
def iSeq (K : PySem.W.Frag) (tl : TE) : TI := fun σ H R => tl σ H fun x H1 =>
  (∃ a, x = .ref a ∧ (∃ xs, SqL K H1 a xs) ∧ R (Itl K a) H1) ∨ (∃ a, x = .ref a ∧ (∃ xs, SqT K H1 a xs) ∧ R (Itt K a) H1) ∨
  ∃ a lo hi, x = .ref a ∧ H1 a = some (.rng lo hi) ∧ (-(2 ^ 62) ≤ lo ∧ lo < 2 ^ 62 ∧ -(2 ^ 62) ≤ hi ∧ hi < 2 ^ 62) ∧ R (Itr lo (hi - lo).toNat) H1
theorem pi_seq {l : Expr} {tl : TE} (hl : PE X l tl) : PI X tg l (iSeq X.K tl) := by
  refine ⟨fun pins s σ H R I h => ?_⟩
  refine thn (hl.run pins s σ H _ I h) fun v s1 ⟨x, H1, I1, r1, q1⟩ => ?_
  rcases q1 with ⟨a, e, ⟨xs, hq⟩, q⟩ | ⟨a, e, ⟨xs, hq⟩, q⟩ | ⟨a, lo, hi, e, hq, ⟨b1, b2, b3, b4⟩, q⟩
  · subst e
    cases r1
    obtain ⟨its, rv, pl, hz⟩ := I1.list hq
    refine wpAny_pyIter_list pl.isList ?_
    refine ⟨s1.heap.objs.size, [s1.heap.objs.size], _, _, H1, rfl, I1.kept (t' := s1.toks) fun b o e => Heap.get?_push_of_some _ e, turn_list a _, ⟨_, Heap.get?_push_size _ rfl, rfl, rfl⟩, fun b hb => ?_, q⟩
    have e : b = s1.heap.objs.size := by simpa using hb
    subst e
    exact I1.fpOk (Nat.le_refl _) (I1.hok.fresh (Nat.le_refl _))
  · subst e
    cases r1
    obtain ⟨its, rv, pt, hz⟩ := I1.tuple hq
    refine wpAny_pyIter_tuple (show s1.heap.IsTuple a its.toArray from pt) ?_
    refine ⟨s1.heap.objs.size, [s1.heap.objs.size], _, _, H1, rfl, I1.kept (t' := s1.toks) fun b o e => Heap.get?_push_of_some _ e, turn_tuple a _, ⟨_, Heap.get?_push_size _ rfl, rfl, rfl⟩, fun b hb => ?_, q⟩
    have e : b = s1.heap.objs.size := by simpa using hb
    subst e
    exact I1.fpOk (Nat.le_refl _) (I1.hok.fresh (Nat.le_refl _))
  · subst e
    cases r1
    obtain ⟨t, u, w, h0⟩ := (show ObjOk X.prog X.w H1 s1.heap a (.rng lo hi) from I1.hok a _ hq)
    refine wpAny_pyIter_range (show IsRange s1.heap a lo hi 1 t u w from h0) (small_one b1 b2 b3 b4) ?_
    refine ⟨s1.heap.objs.size, [s1.heap.objs.size], _, _, H1, rfl, I1.kept (t' := s1.toks) fun b o e => Heap.get?_push_of_some _ e, turn_range _ lo (hi - lo).toNat, ?_, fun b hb => ?_, q⟩
    · have e1 : lo + ((0 : Nat) : Int) * 1 = lo := by simp
      have e2 : (((hi - lo).toNat : Nat) : Int) - ((0 : Nat) : Int) = Builtin.Range.rangeSize lo hi 1 := by rw [rangeSize_one]; split <;> omega
      show IsRangeIter _ _ (lo + ((0 : Nat) : Int) * 1) ((((hi - lo).toNat : Nat) : Int) - ((0 : Nat) : Int)) 1
      rw [e1, e2]
      exact Heap.get?_push_size _ rfl
    · have e : b = s1.heap.objs.size := by simpa using hb
      subst e
      exact I1.fpOk (Nat.le_refl _) (I1.hok.fresh (Nat.le_refl _))
theorem ii_seq {f : XM} {R : RC} (h : PE X e (tI X.K p (f R))) : PI X tg e (tII X.K p (iOf f R)) := (pi_seq h).imp fun σ H R' q => by
  obtain ⟨env, S, B0, oa, f0, w, e1, k⟩ := q
  unfold iOf at e1
  obtain ⟨x, ex, e1⟩ := Option.bind_eq_some_iff.mp e1
  obtain ⟨ds, ed, e1⟩ := Option.map_eq_some_iff.mp e1
  subst e1
  refine ⟨env, S, B0, oa, f0, x, ex, fun v H1 f1 k1 r1 => ?_⟩
  generalize hx : x.1 = d at r1 ed
  cases r1 with
  | non => cases ed
  | bl _ => cases ed
  | int _ => cases ed
  | str _ => cases ed
  | ty _ => cases ed
  | tup hs hr =>
    cases ed
    exact .inr (.inl ⟨_, rfl, ⟨_, hs⟩, k _ H1 f1 k1 (jok_tup hs hr f1.mut)⟩)
  | lst hs hn hr =>
    cases ed
    exact .inl ⟨_, rfl, ⟨_, .inl (.inl hs)⟩, k _ H1 f1 k1 (jok_list hs hn hr f1.mut)⟩
  | dic _ _ _ _ => cases ed
  | rng h1 h2 =>
    simp only [itD] at ed
    split at ed
    · rename_i hb
      cases ed
      exact .inr (.inr ⟨_, _, _, rfl, h1, hb, k _ H1 f1 k1 jok_rng⟩)
    · cases ed
  | pool => cases ed
def inR (i : Int) : Bool := decide (-(2 ^ 62) ≤ i ∧ i < 2 ^ 62)
def rng1 : List D → Option (List D)
  | [.int j] => if inR j then some (irs 0 j.toNat) else none
  | _ => none
def rng2 : List D → Option (List D)
  | [.int i, .int j] => if inR i && inR j then some (irs i (j - i).toNat) else none
  | _ => none
def iArg (g : List D → Option (List D)) (f : AM) : IM := fun R env S => (f R env S).bind fun x => (g x.1).map fun ds => (ds, x.2)
theorem ii_rng1 {f : AM} {R : RC} {pf : Pos} (hg : Gl X "range") (hm : X.mg "range" = none) (ha : PA X [a] (tAI X.K p (f R))) (hs : starEach [a] X.env = [(false, eval a X.env)]) : PI X tg (.Call (.Name "range" pf) [a] [] pos) (tII X.K p (iArg rng1 f R)) := (pi_range1 hg hm ha hs).imp fun σ H R' q => by
  obtain ⟨env, S, B0, oa, f0, w, e1, k⟩ := q
  unfold iArg at e1
  obtain ⟨x, ex, e1⟩ := Option.bind_eq_some_iff.mp e1
  obtain ⟨ds, ed, e1⟩ := Option.map_eq_some_iff.mp e1
  subst e1
  refine ⟨env, S, B0, oa, f0, x, ex, fun vs H1 f1 k1 r1 => ?_⟩
  generalize x.1 = as at r1 ed
  unfold rng1 at ed
  split at ed
  · rename_i j
    split at ed
    · rename_i hj
      cases ed
      have hj := of_decide_eq_true hj
      cases r1 with
      | cons r rr =>
        cases rr
        cases r
        exact ⟨j, rfl, hj.1, hj.2, k _ H1 f1 k1 jok_rng⟩
    · cases ed
  · cases ed
theorem ii_rng2 {f : AM} {R : RC} {pf : Pos} (hg : Gl X "range") (hm : X.mg "range" = none) (ha : PA X [a, b] (tAI X.K p (f R))) (hs : starEach [a, b] X.env = [(false, eval a X.env), (false, eval b X.env)]) (hs2 : starEach [b] X.env = [(false, eval b X.env)]) :
    PI X tg (.Call (.Name "range" pf) [a, b] [] pos) (tII X.K p (iArg rng2 f R)) := (pi_range2 hg hm ha hs hs2).imp fun σ H R' q => by
  obtain ⟨env, S, B0, oa, f0, w, e1, k⟩ := q
  unfold iArg at e1
  obtain ⟨x, ex, e1⟩ := Option.bind_eq_some_iff.mp e1
  obtain ⟨ds, ed, e1⟩ := Option.map_eq_some_iff.mp e1
  subst e1
  refine ⟨env, S, B0, oa, f0, x, ex, fun vs H1 f1 k1 r1 => ?_⟩
  generalize x.1 = as at r1 ed
  unfold rng2 at ed
  split at ed
  · rename_i i j
    split at ed
    · rename_i hj
      cases ed
      obtain ⟨h1, h2⟩ := Bool.and_eq_true_iff.mp hj
      have h1 := of_decide_eq_true h1
      have h2 := of_decide_eq_true h2
      cases r1 with
      | cons r rr =>
        cases rr with
        | cons r' rr' =>
          cases rr'
          cases r
          cases r'
          exact ⟨i, j, rfl, ⟨h1.1, h1.2, h2.1, h2.2⟩, k _ H1 f1 k1 jok_rng⟩
    · cases ed
  · cases ed

/-! ### targets -/
inductive Tg where
  | name (i : Nat) | tup (is : List Nat)
def putAll : List Nat → List D → En → En
  | i :: is, d :: ds, env => putAll is ds (env.set i (some (.sh d)))
  | _, _, env => env
def putT : Tg → D → En → Option En
  | .name i, d, env => some (env.set i (some (.sh d)))
  | .tup is, .tup ds, env => if ds.length = is.length then some (putAll is ds env) else none
  | _, _, _ => none
def Tg.slots : Tg → List Nat
  | .name i => [i]
  | .tup is => is
def TgOk (K : PySem.W.Frag) (p : Addr) (t : Tg) (g : TG) : Prop := ∀ (B0 : Addr → Prop) (oa : Oa) (env : En) (σ : L2.St) (H : Hp) (S : List D) (v : V) (d : D) (env' : En) (Q : L2.St → Hp → Prop),
  FI K p B0 oa env σ H S → Rep K p (Bf B0 p oa) H v d → putT t d env = some env' → (∀ σ' oa', FI K p B0 oa' env' σ' H S → Mv p oa oa' H H →
    (∀ vs : List Nat, (∀ i ∈ t.slots, i ∈ vs) → wipe σ' vs = wipe σ vs) → (∀ b, Own oa b → Own oa' b ∨ ∃ i ∈ t.slots, oa i = some b) → Q σ' H) → g v σ H Q
theorem wipe_set {σ : L2.St} {x : Option V} {i : Nat} : ∀ {vs : List Nat}, i ∈ vs → wipe (σ.set i x) vs = wipe σ vs
  | [], h => by cases h
  | v :: vs, h => by
    unfold wipe
    by_cases hi : i ∈ vs
    · rw [wipe_set hi]
    · have e : i = v := by
        rcases List.mem_cons.mp h with h | h
        · exact h
        · exact absurd h hi
      subst e
      have : ∀ ws : List Nat, i ∉ ws → wipe (σ.set i x) ws = (wipe σ ws).set i x := by
        intro ws
        induction ws with
        | nil => intro _; rfl
        | cons w ws ih =>
          intro hw
          have h1 : i ≠ w := fun z => hw (z ▸ List.mem_cons_self)
          have h2 : i ∉ ws := fun z => hw (List.mem_cons_of_mem _ z)
          show (wipe (σ.set i x) ws).set w none = ((wipe σ ws).set w none).set i x
          rw [ih h2, List.set_comm _ _ h1]
      rw [this vs hi, List.set_set]
theorem own_drop_back {oa : Oa} {i : Nat} {b : Addr} (h : Own oa b) : Own (oaDrop oa i) b ∨ oa i = some b := by
  obtain ⟨j, e⟩ := h
  by_cases hj : j = i
  · exact .inr (hj ▸ e)
  · exact .inl ⟨j, by unfold oaDrop; rw [if_neg hj]; exact e⟩
theorem tg_name {K : PySem.W.Frag} {i : Nat} : TgOk K p (.name i) (gName i) := fun B0 oa env σ H S v d env' Q f r e k => by
  cases e
  refine k _ _ (f.set i r) (Mv.drop i) (fun vs h => wipe_set (h i (by simp [Tg.slots]))) fun b h => ?_
  rcases own_drop_back (i := i) h with z | z
  · exact .inl z
  · exact .inr ⟨i, by simp [Tg.slots], z⟩
def gAll : List Nat → TGs
  | [] => gNil
  | i :: is => gCons (gName i) (gAll is)
theorem tg_all {K : PySem.W.Frag} : ∀ (is : List Nat) (ds : List D) (vs : List V) (B0 : Addr → Prop) (oa : Oa) (env : En) (σ : L2.St) (H : Hp) (S : List D) (Q : L2.St → Hp → Prop),
    FI K p B0 oa env σ H S → Reps K p (Bf B0 p oa) H vs ds → ds.length = is.length → (∀ σ' oa', FI K p B0 oa' (putAll is ds env) σ' H S → Mv p oa oa' H H →
      (∀ ws : List Nat, (∀ i ∈ is, i ∈ ws) → wipe σ' ws = wipe σ ws) → (∀ b, Own oa b → Own oa' b ∨ ∃ i ∈ is, oa i = some b) → Q σ' H) → gAll is vs σ H Q
  | [], [], vs, B0, oa, env, σ, H, S, Q, f, r, _, k => by
    cases r
    exact ⟨rfl, k σ oa f Mv.refl (fun _ _ => rfl) fun _ h => .inl h⟩
  | i :: is, d :: ds, vs, B0, oa, env, σ, H, S, Q, f, r, hl, k => by
    cases r with
    | cons r1 r2 =>
      refine ⟨_, _, rfl, ?_⟩
      refine tg_all is ds _ B0 _ _ _ H S Q (f.set i r1) (r2.less fun b => bf_drop) (by simpa using hl) fun σ' oa' f' m' w' o' => k σ' oa' f' ((Mv.drop i).trans m') (fun ws hw => ?_) fun b h => ?_
      · rw [w' ws fun j hj => hw j (List.mem_cons_of_mem _ hj), wipe_set (hw i List.mem_cons_self)]
      · rcases own_drop_back (i := i) h with z | z
        · rcases o' b z with z | ⟨j, hj, z⟩
          · exact .inl z
          · refine .inr ⟨j, List.mem_cons_of_mem _ hj, ?_⟩
            unfold oaDrop at z
            split at z
            · cases z
            · exact z
        · exact .inr ⟨i, List.mem_cons_self, z⟩
  | [], _ :: _, _, _, _, _, _, _, _, _, _, _, hl, _ => by simp at hl
  | _ :: _, [], _, _, _, _, _, _, _, _, _, _, hl, _ => by simp at hl
theorem tg_tup {K : PySem.W.Frag} {is : List Nat} : TgOk K p (.tup is) (gTup K is.length (gAll is)) := fun B0 oa env σ H S v d env' Q f r e k => by
  cases r with
  | tup hs hr =>
    simp only [putT] at e
    split at e
    · rename_i hl
      cases e
      exact ⟨_, _, rfl, hs, by rw [hr.length]; exact hl, tg_all is _ _ B0 oa env σ H S Q f hr hl k⟩
    · cases e
  | _ => cases e

/-! ### statements -/
def sNil : SM := fun _ env S => some (.nx, env, S)
def sSeq (f g : SM) : SM := fun R env S => (f R env S).bind fun r => match r.1 with
  | .nx => g R r.2.1 r.2.2
  | _ => some r
def sIf (t : TM) (f g : SM) : SM := fun R env S => (t R env S).bind fun x => if x.1 = true then f R env x.2 else g R env x.2
def sRet (f : XM) : SM := fun R env S => (f R env S).map fun x => (.ret x.1, env, x.2)
def sDrop (f : XM) : SM := fun R env S => (f R env S).map fun x => (.nx, env, x.2)
def sBk : SM := fun _ env S => some (.bk, env, S)
def sCt : SM := fun _ env S => some (.ct, env, S)
def sAsg (t : Tg) (f : XM) : SM := fun R env S => (f R env S).bind fun x => (putT t x.1 env).map fun env' => (.nx, env', x.2)
def sFrz (is : List Nat) (f : SM) : SM := fun R env S => f R (is.foldl freeze env) S
def forL (t : Tg) (b : En → List D → Option (Fl × En × List D)) : List D → En → List D → Option (Fl × En × List D)
  | [], env, S => some (.nx, env, S)
  | d :: ds, env, S => (putT t d env).bind fun env1 => (b env1 S).bind fun r => match r.1 with
    | .nx => forL t b ds r.2.1 r.2.2
    | .ct => forL t b ds r.2.1 r.2.2
    | .bk => some (.nx, r.2.1, r.2.2)
    | .ret d => some (.ret d, r.2.1, r.2.2)
def sFor (it : IM) (t : Tg) (b : SM) : SM := fun R env S => (it R env S).bind fun x => forL t (b R) x.1 env x.2
def whileL (t : En → List D → Option (Bool × List D)) (b : En → List D → Option (Fl × En × List D)) : Nat → En → List D → Option (Fl × En × List D)
  | 0, _, _ => none
  | n + 1, env, S => (t env S).bind fun x => if x.1 = true then (b env x.2).bind fun r => match r.1 with
      | .nx => whileL t b n r.2.1 r.2.2
      | .ct => whileL t b n r.2.1 r.2.2
      | .bk => some (.nx, r.2.1, r.2.2)
      | .ret d => some (.ret d, r.2.1, r.2.2)
    else some (.nx, env, x.2)
def sWhile (n : Nat) (t : TM) (b : SM) : SM := fun R env S => whileL (t R) (b R) n env S
end

section
variable {X : Cx} {p : Addr} {st : Stmt} {pos : Pos}
theorem _root_.L2.PS.imp {t t' : TS} (h : PS X st t) (f : ∀ Dn σ H, t' Dn σ H → t Dn σ H) : PS X st t' := ⟨fun pins s σ H Dn I q => h.run pins s σ H Dn I (f Dn σ H q)⟩
theorem _root_.L2.PSs.imp {sts : List Stmt} {t t' : TS} (h : PSs X sts t) (f : ∀ Dn σ H, t' Dn σ H → t Dn σ H) : PSs X sts t' := ⟨fun pins s σ H Dn I q => h.run pins s σ H Dn I (f Dn σ H q)⟩
theorem is_nil {R : RC} : PSs X [] (tIS X.K p (sNil R)) := pss_nil.imp fun Dn σ H q => by
  obtain ⟨env, S, B0, oa, f, r, e1, k⟩ := q
  cases e1
  exact k σ H oa f Mv.refl
theorem is_cons {f g : SM} {R : RC} {rest : List Stmt} (h1 : PS X st (tIS X.K p (f R))) (h2 : PSs X rest (tIS X.K p (g R))) : PSs X (st :: rest) (tIS X.K p (sSeq f g R)) := (pss_cons h1 h2).imp fun Dn σ H q => by
  obtain ⟨env, S, B0, oa, f0, w, e1, k⟩ := q
  unfold sSeq at e1
  obtain ⟨r, er, e1⟩ := Option.bind_eq_some_iff.mp e1
  refine ⟨env, S, B0, oa, f0, r, er, ?_⟩
  obtain ⟨fl, env1, S1⟩ := r
  cases fl with
  | nx => exact fun σ' H' oa' f' m' => ⟨env1, S1, B0, oa', f', w, e1, k.mv m'⟩
  | bk => cases e1; exact k
  | ct => cases e1; exact k
  | ret d => cases e1; exact k
theorem is_if {t : TM} {f g : SM} {R : RC} {c : Expr} {a b : List Stmt} (ht : PT X c (tTI X.K p (t R))) (h1 : PSs X a (tIS X.K p (f R))) (h2 : PSs X b (tIS X.K p (g R))) : PS X (.If c a b pos) (tIS X.K p (sIf t f g R)) := (ps_if ht h1 h2).imp fun Dn σ H q => by
  obtain ⟨env, S, B0, oa, f0, w, e1, k⟩ := q
  unfold sIf at e1
  obtain ⟨x, ex, e1⟩ := Option.bind_eq_some_iff.mp e1
  refine ⟨env, S, B0, oa, f0, x, ex, fun H1 f1 k1 => ?_⟩
  have m1 : Mv p oa oa H H1 := k1.mv f1.pool.some
  by_cases hx : x.1 = true
  · rw [if_pos hx] at e1
    dsimp only
    rw [if_pos hx]
    exact ⟨env, _, B0, oa, f1, w, e1, k.mv m1⟩
  · rw [if_neg hx] at e1
    dsimp only
    rw [if_neg hx]
    exact ⟨env, _, B0, oa, f1, w, e1, k.mv m1⟩
theorem FI.end_ {K : PySem.W.Frag} {B0 : Addr → Prop} {oa : Oa} {env : En} {σ : L2.St} {H H1 : Hp} {S : List D} (f1 : FI K p B0 oa env σ H1 S) (k1 : Keep p H H1) {v : V} {d : D} (r : Rep K p (Bf B0 p oa) H1 v d) :
    Mv p oa oa0 H H1 ∧ PoolOk K p (Bf B0 p oa0) H1 S ∧ Rep K p (Bf B0 p oa0) H1 v d := by
  have hb : ∀ b, Bf B0 p oa0 b → Bf B0 p oa b := fun b h => by
    rcases h with h | h | h
    · exact .inl h
    · exact .inr (.inl h)
    · exact absurd h own0
  obtain ⟨vs, e, q⟩ := f1.pool
  exact ⟨⟨fun b o n _ h => k1 b o n h, fun z => absurd z f1.pool.some, fun b h => absurd h own0⟩, ⟨vs, e, q.less hb⟩, r.less hb⟩
theorem is_ret {f : XM} {R : RC} {e : Expr} (h : PE X e (tI X.K p (f R))) : PS X (.Return (some e) pos) (tIS X.K p (sRet f R)) := (ps_ret h).imp fun Dn σ H q => by
  obtain ⟨env, S, B0, oa, f0, w, e1, k⟩ := q
  unfold sRet at e1
  obtain ⟨x, ex, e1⟩ := Option.map_eq_some_iff.mp e1
  subst e1
  refine ⟨env, S, B0, oa, f0, x, ex, fun v H1 f1 k1 r1 => ?_⟩
  obtain ⟨m, q, r⟩ := f1.end_ k1 r1
  exact k v H1 m q r
theorem is_drop {f : XM} {R : RC} {e : Expr} (h : PE X e (tI X.K p (f R))) (hs : swapsWith e none pos.line X.env = pure false) : PS X (.Expr e pos) (tIS X.K p (sDrop f R)) := (ps_expr h hs).imp fun Dn σ H q => by
  obtain ⟨env, S, B0, oa, f0, w, e1, k⟩ := q
  unfold sDrop at e1
  obtain ⟨x, ex, e1⟩ := Option.map_eq_some_iff.mp e1
  subst e1
  exact ⟨env, S, B0, oa, f0, x, ex, fun v H1 f1 k1 r1 => k σ H1 oa f1 (k1.mv f1.pool.some)⟩
theorem is_bk {R : RC} : PS X (.Break pos) (tIS X.K p (sBk R)) := ps_break.imp fun Dn σ H q => by
  obtain ⟨env, S, B0, oa, f, r, e1, k⟩ := q
  cases e1
  exact k σ H oa f Mv.refl
theorem is_ct {R : RC} : PS X (.Continue pos) (tIS X.K p (sCt R)) := ps_continue.imp fun Dn σ H q => by
  obtain ⟨env, S, B0, oa, f, r, e1, k⟩ := q
  cases e1
  exact k σ H oa f Mv.refl
theorem is_pass {R : RC} : PS X (.Pass pos) (tIS X.K p (sNil R)) := ps_pass.imp fun Dn σ H q => by
  obtain ⟨env, S, B0, oa, f, r, e1, k⟩ := q
  cases e1
  exact k σ H oa f Mv.refl
theorem asg_I {t : Tg} {g : TG} {f : XM} {R : RC} {K : PySem.W.Frag} (tk : TgOk K p t g) {Dn : Ends} {σ : L2.St} {H : Hp} (q : tIS K p (sAsg t f R) Dn σ H) : tAsg (tI K p (f R)) g Dn σ H := by
  obtain ⟨env, S, B0, oa, f0, w, e1, k⟩ := q
  unfold sAsg at e1
  obtain ⟨x, ex, e1⟩ := Option.bind_eq_some_iff.mp e1
  obtain ⟨env', ee, e1⟩ := Option.map_eq_some_iff.mp e1
  subst e1
  refine ⟨env, S, B0, oa, f0, x, ex, fun v H1 f1 k1 r1 => ?_⟩
  exact tk B0 oa env σ H1 _ v _ env' _ f1 r1 ee fun σ' oa' f2 m2 _ _ => k σ' H1 oa' f2 ((k1.mv f1.pool.some).trans m2)
theorem is_asg {t : Tg} {g : TG} {f : XM} {R : RC} {tg e : Expr} (tk : TgOk X.K p t g) (h : PE X e (tI X.K p (f R))) (hg : PG X tg g) (hs : swapsWithSole [tg] e pos.line X.env = pure false) (hw : swappedStores [tg] e X.env = pure none)
    (h1 : (assignEach [tg] X.env).map (·.2) = [assign tg X.env]) : PS X (.Assign [tg] e pos) (tIS X.K p (sAsg t f R)) := (ps_asg h hg hs hw h1).imp fun Dn σ H q => asg_I tk q
theorem is_set {i : Nat} {x : Str} {f : XM} {R : RC} {e : Expr} {pos' : Pos} (hN : X.N.Nodup) (hi : X.N[i]? = some x) (hx : Loc X.env.scope x) (h : PE X e (tI X.K p (f R))) (hs : swapsWith e (some (.Name x pos')) pos.line X.env = pure false) (hf : X.fn x = true ∨ X.env.scope.names.lookup x = some .local) :
    PS X (.Assign [.Name x pos'] e pos) (tIS X.K p (sAsg (.name i) f R)) := (ps_set hN hi hx h hs hf).imp fun Dn σ H q => asg_I tg_name q
theorem is_frz {f : SM} {R : RC} {is : List Nat} (h : PS X st (tIS X.K p (f R))) : PS X st (tIS X.K p (sFrz is f R)) := h.imp fun Dn σ H q => by
  obtain ⟨env, S, B0, oa, f0, w, e1, k⟩ := q
  obtain ⟨oa', f1, m1⟩ := f0.freezes is
  exact ⟨_, S, B0, oa', f1, w, e1, k.mv m1⟩
/-- for -/
theorem is_for {it : IM} {t : Tg} {g : TG} {f : SM} {R : RC} {tg iter : Expr} {body : List Stmt} (hp : PassesOwn (model X.prog X.w) X.A X.env X.xe) (hc : X.calm = true) (tk : TgOk X.K p t g) (hi : PI X tg iter (tII X.K p (it R))) (hg : PG X tg g) (hb : PSs X body (tIS X.K p (f R)))
    (hs : ∀ x, foldedSetIterable iter X.env x = pure x) : PS X (.For tg iter body [] pos) (tIS X.K p (sFor it t f R)) := (ps_for hp hc hi hg hb hs).imp fun Dn σ H q => by
  obtain ⟨env, S, B0, oa, f0, w, e1, k⟩ := q
  unfold sFor at e1
  obtain ⟨x, ex, e1⟩ := Option.bind_eq_some_iff.mp e1
  refine ⟨env, S, B0, oa, f0, x, ex, fun J H1 f1 k1 j => ?_⟩
  refine ⟨fun i m σ' H' => i + m = x.1.length ∧ ∃ env' S' oa', FI X.K p B0 oa' env' σ' H' S' ∧ Mv p oa oa' H1 H' ∧ forL t (f R) (x.1.drop i) env' S' = some w, ⟨x.1.length, by omega, env, x.2, oa, f1, Mv.refl, by rw [List.drop_zero]; exact e1⟩, fun i m σ' H' h => ?_⟩
  obtain ⟨hi, env', S', oa', f', m', e'⟩ := h
  have jk := j (Bf B0 p oa') H' (fun b o nb h => m'.kp b o (fun z => nb (.inr (.inl z))) (fun z => nb (.inr (.inr z))) h) (fun b h => by
    rcases h with h | h | h
    · exact .inl (.inl h)
    · exact .inl (.inr (.inl h))
    · rcases m'.nw b h with z | z
      · exact .inl (.inr (.inr z))
      · exact .inr z) f'.mut
  have m0 : Mv p oa oa' H H' := (k1.mv f1.pool.some).trans m'
  by_cases hx : i < x.1.length
  · have eg : x.1[i]? = some x.1[i] := List.getElem?_eq_getElem hx
    rw [List.drop_eq_getElem_cons hx] at e'
    simp only [forL] at e'
    obtain ⟨env1, ee, e'⟩ := Option.bind_eq_some_iff.mp e'
    obtain ⟨r, er, e'⟩ := Option.bind_eq_some_iff.mp e'
    obtain ⟨go, yl⟩ := jk.2 i _ eg
    refine .inr ⟨go, fun σ2 H2 => ∃ env2 S2 oa2, FI X.K p B0 oa2 env2 σ2 H2 S2 ∧ Mv p oa oa2 H1 H2 ∧ forL t (f R) (x.1.drop (i + 1)) env2 S2 = some w, fun σ2 H2 ⟨env2, S2, oa2, f2, m2, e2⟩ => ⟨m - 1, by omega, by omega, env2, S2, oa2, f2, m2, e2⟩, fun v H2 y => ?_⟩
    obtain ⟨s2, r2⟩ := yl v H2 y
    have f2 := f'.same s2
    have ms : Mv p oa' oa' H' H2 := (Keep.of s2).mv f2.pool.some
    refine tk B0 oa' env' σ' H2 S' v _ env1 _ f2 r2 ee fun σ3 oa3 f3 m3 _ _ => ?_
    refine ⟨env1, S', B0, oa3, f3, r, er, ?_⟩
    have m4 : Mv p oa' oa3 H' H2 := ms.trans m3
    obtain ⟨fl, env4, S4⟩ := r
    cases fl with
    | nx => exact fun σ5 H5 oa5 f5 m5 => ⟨env4, S4, oa5, f5, (m'.trans m4).trans m5, e'⟩
    | ct => exact fun σ5 H5 oa5 f5 m5 => ⟨env4, S4, oa5, f5, (m'.trans m4).trans m5, e'⟩
    | bk =>
      cases e'
      exact fun σ5 H5 oa5 f5 m5 => k σ5 H5 oa5 f5 ((m0.trans m4).trans m5)
    | ret d =>
      cases e'
      exact fun v5 H5 m5 p5 r5 => k v5 H5 ((m0.trans m4).trans m5) p5 r5
  · have hl : i = x.1.length := by omega
    subst hl
    rw [List.drop_length] at e'
    simp only [forL] at e'
    cases e'
    exact .inl ⟨jk.1, k σ' H' oa' f' m0⟩
/-- while -/
theorem is_while {n : Nat} {t : TM} {f : SM} {R : RC} {c : Expr} {body : List Stmt} (hp : PassesOwn (model X.prog X.w) X.A X.env X.xe) (ht : PT X c (tTI X.K p (t R))) (hb : PSs X body (tIS X.K p (f R))) : PS X (.While c body [] pos) (tIS X.K p (sWhile n t f R)) := (ps_while hp ht hb).imp fun Dn σ H q => by
  obtain ⟨env, S, B0, oa, f0, w, e1, k⟩ := q
  unfold sWhile at e1
  refine ⟨fun m σ' H' => ∃ env' S' oa', FI X.K p B0 oa' env' σ' H' S' ∧ Mv p oa oa' H H' ∧ whileL (t R) (f R) m env' S' = some w, ⟨n, env, S, oa, f0, Mv.refl, e1⟩, fun m σ' H' h => ?_⟩
  obtain ⟨env', S', oa', f', m', e'⟩ := h
  cases m with
  | zero => cases e'
  | succ m =>
    simp only [whileL] at e'
    obtain ⟨x, ex, e'⟩ := Option.bind_eq_some_iff.mp e'
    refine ⟨env', S', B0, oa', f', x, ex, fun H1 f1 k1 => ?_⟩
    have m1 : Mv p oa oa' H H1 := m'.trans (k1.mv f1.pool.some)
    by_cases hx : x.1 = true
    · rw [if_pos hx] at e'
      dsimp only
      rw [if_pos hx]
      obtain ⟨r, er, e'⟩ := Option.bind_eq_some_iff.mp e'
      refine ⟨fun σ2 H2 => ∃ env2 S2 oa2, FI X.K p B0 oa2 env2 σ2 H2 S2 ∧ Mv p oa oa2 H H2 ∧ whileL (t R) (f R) m env2 S2 = some w, fun σ2 H2 h2 => ⟨m, Nat.lt_succ_self m, h2⟩, env', _, B0, oa', f1, r, er, ?_⟩
      obtain ⟨fl, env4, S4⟩ := r
      cases fl with
      | nx => exact fun σ5 H5 oa5 f5 m5 => ⟨env4, S4, oa5, f5, m1.trans m5, e'⟩
      | ct => exact fun σ5 H5 oa5 f5 m5 => ⟨env4, S4, oa5, f5, m1.trans m5, e'⟩
      | bk =>
        cases e'
        exact fun σ5 H5 oa5 f5 m5 => k σ5 H5 oa5 f5 (m1.trans m5)
      | ret d =>
        cases e'
        exact fun v5 H5 m5 p5 r5 => k v5 H5 (m1.trans m5) p5 r5
    · rw [if_neg hx] at e'
      dsimp only
      rw [if_neg hx]
      cases e'
      exact k σ' H1 oa' f1 m1
end
end Ip

set_option maxHeartbeats 1000000
/-! IpD: list comprehensions; lists of the frame's own. -/
namespace Ip
open PySem L2

def notOwn (env : En) (i : Nat) : Bool := match env[i]? with
  | some (some (.own _)) => false
  | some (some (.ownD _ _)) => false
  | _ => true
def wipeE (env : En) : List Nat → En
  | [] => env
  | v :: vs => (wipeE env vs).set v none
def compL (t : Tg) (tt : En → List D → Option (Bool × List D)) (f : En → List D → Option (D × List D)) : List D → En → List D → Option (List D × List D)
  | [], _, S => some ([], S)
  | d :: ds, env, S => (putT t d env).bind fun env1 => (tt env1 S).bind fun b => if b.1 = true then (f env1 b.2).bind fun x => (compL t tt f ds env x.2).map fun r => (x.1 :: r.1, r.2) else compL t tt f ds env b.2
def lComp (it : IM) (t : Tg) (vs : List Nat) (tt : TM) (f : XM) : LM := fun R env S => if vs.all (notOwn env) && t.slots.all (fun i => decide (i ∈ vs)) then (it R env S).bind fun x => if x.1.length ≤ sizeLine then compL t (tt R) (f R) x.1 (wipeE env vs) x.2 else none else none

section
variable {K : PySem.W.Frag} {p : Addr} {B0 : Addr → Prop} {oa oa' : Oa} {env : En} {σ : L2.St} {H H' : Hp} {S S' : List D}
theorem notOwn_oa (f : FI K p B0 oa env σ H S) {i : Nat} (h : notOwn env i = true) : oa i = none := by
  cases e : oa i with
  | none => rfl
  | some a =>
    obtain ⟨_, x, e2, q⟩ := f.ow i a e
    unfold notOwn at h
    rw [e2] at h
    cases q <;> cases h
theorem wipeE_get {i : Nat} {x : SV} : ∀ {vs : List Nat}, (wipeE env vs)[i]? = some (some x) → env[i]? = some (some x) ∧ i ∉ vs
  | [], h => ⟨h, by simp⟩
  | v :: vs, h => by
    unfold wipeE at h
    by_cases hi : i = v
    · subst hi
      obtain ⟨z, _⟩ := get_set_eq h
      cases z
    · rw [get_set_ne hi] at h
      obtain ⟨h1, h2⟩ := wipeE_get h
      exact ⟨h1, by simp only [List.mem_cons, not_or]; exact ⟨hi, h2⟩⟩
theorem wipeE_keep {i : Nat} : ∀ {vs : List Nat}, i ∉ vs → (wipeE env vs)[i]? = env[i]?
  | [], _ => rfl
  | v :: vs, h => by
    unfold wipeE
    have h1 : i ≠ v := fun z => h (z ▸ List.mem_cons_self)
    rw [get_set_ne h1, wipeE_keep fun z => h (List.mem_cons_of_mem _ z)]
theorem wipeE_length : ∀ vs : List Nat, (wipeE env vs).length = env.length
  | [] => rfl
  | v :: vs => by unfold wipeE; rw [List.length_set, wipeE_length vs]
theorem wipe_keep {i : Nat} : ∀ {vs : List Nat}, i ∉ vs → (wipe σ vs)[i]? = σ[i]?
  | [], _ => rfl
  | v :: vs, h => by
    unfold wipe
    have h1 : i ≠ v := fun z => h (z ▸ List.mem_cons_self)
    rw [get_set_ne h1, wipe_keep fun z => h (List.mem_cons_of_mem _ z)]
theorem wipe_twice : ∀ {vs : List Nat}, wipe (wipe σ vs) vs = wipe σ vs := by
  intro vs
  apply List.ext_getElem?
  intro i
  by_cases hi : i ∈ vs
  · have : ∀ (τ : L2.St) (ws : List Nat), i ∈ ws → i < τ.length → (wipe τ ws)[i]? = some none := by
      intro τ ws
      induction ws with
      | nil => intro h _; cases h
      | cons w ws ih =>
        intro h hl
        show ((wipe τ ws).set w none)[i]? = some none
        by_cases hw : i = w
        · subst hw
          rw [List.getElem?_set_self (by rw [wipe_length]; exact hl)]
        · rw [get_set_ne hw]
          exact ih (by rcases List.mem_cons.mp h with z | z; exact absurd z hw; exact z) hl
    by_cases hl : i < σ.length
    · rw [this _ _ hi (by rw [wipe_length]; exact hl), this _ _ hi hl]
    · rw [List.getElem?_eq_none (by rw [wipe_length, wipe_length]; omega), List.getElem?_eq_none (by rw [wipe_length]; omega)]
  · rw [wipe_keep hi]
theorem FI.wipe (f : FI K p B0 oa env σ H S) {vs : List Nat} (h : ∀ i ∈ vs, oa i = none) : FI K p B0 oa (wipeE env vs) (wipe σ vs) H S where
  len := by rw [wipeE_length, wipe_length, f.len]
  sh := fun i d e => by
    obtain ⟨e1, hn⟩ := wipeE_get e
    obtain ⟨v, e2, r⟩ := f.sh i d e1
    exact ⟨v, by rw [wipe_keep hn]; exact e2, r⟩
  ow := fun i a e => by
    have hn : i ∉ vs := fun z => by rw [h i z] at e; cases e
    obtain ⟨e1, x, e2, q⟩ := f.ow i a e
    exact ⟨by rw [wipe_keep hn]; exact e1, x, by rw [wipeE_keep hn]; exact e2, q⟩
  has := fun i x e => f.has i x (wipeE_get e).1
  inj := f.inj
  dis := f.dis
  b0 := f.b0
  pool := f.pool
end

section
variable {X : Cx} {p : Addr} {tg e a b c iter elt : Expr} {pos : Pos}
/-- a comprehension's body over what is walked: the list at the new place -/
theorem comp_run {K : PySem.W.Frag} {t : Tg} {g : TG} {vs : List Nat} {tt : TM} {f : XM} {R : RC} (tk : TgOk K p t g) {σ : L2.St} {H1 : Hp} {Qd : V → Hp → Prop} {B0 : Addr → Prop} {oa : Oa} {env : En} {S : List D} {ds : List D} {J : It}
    (hs : ∀ i ∈ t.slots, i ∈ vs) (ho : ∀ i ∈ vs, oa i = none) (hl : ds.length ≤ sizeLine) {r : List D × List D} (er : compL t (tt R) (f R) ds (wipeE env vs) S = some r) (f1 : FI K p B0 oa env σ H1 S) (jk : JOk K p (Bf B0 p oa) H1 J ds)
    (k : ∀ D vs' H', H1 D = none → FI K p (fun b => B0 b ∨ b = D) oa env σ H' r.2 → Keep p H1 H' → H' D = some (.lst vs') → Reps K p (Bf (fun b => B0 b ∨ b = D) p oa) H' vs' r.1 → Qd (.ref D) H') :
    ∀ D, H1 D = none → ∃ W : Nat → Nat → Hp → Prop, (∃ m, W 0 m (upd H1 D (.lst []))) ∧ ∀ i m H, W i m H →
      (J.stop i H ∧ Qd (.ref D) H) ∨ (J.go i H ∧ ∃ Nx : Hp → Prop, (∀ H', Nx H' → ∃ m', m' < m ∧ W (i + 1) m' H') ∧ ∀ x H', J.yld i H x H' → g x (wipe σ vs) H' fun σ2 H2 => wipe σ2 vs = wipe σ vs ∧ tTI K p (tt R) σ2 H2 fun b H3 =>
        if b = true then tI K p (f R) σ2 H3 fun y H4 => ∃ acc, H4 D = some (.lst acc) ∧ acc.length < sizeLine ∧ Nx (upd H4 D (.lst (acc ++ [y]))) else Nx H3) := by
  intro L hL
  have hLp : L ≠ p := fun z => f1.pool.some (z ▸ hL)
  have f2 : FI K p (fun b => B0 b ∨ b = L) oa env σ (upd H1 L (.lst [])) S := f1.shun hL trivial
  refine ⟨fun i m H' => i + m = ds.length ∧ ∃ acc done S' rest, FI K p (fun b => B0 b ∨ b = L) oa env σ H' S' ∧ Keep p H1 H' ∧ H' L = some (.lst acc) ∧ Reps K p (Bf (fun b => B0 b ∨ b = L) p oa) H' acc done ∧ acc.length ≤ i ∧
    compL t (tt R) (f R) (ds.drop i) (wipeE env vs) S' = some rest ∧ r = (done ++ rest.1, rest.2), ⟨ds.length, by omega, [], [], S, r, f2, Keep.of (same_new hL), upd_same, .nil, Nat.zero_le _, by rw [List.drop_zero]; exact er, rfl⟩, fun i m H' h => ?_⟩
  obtain ⟨hi, acc, done, S', rest, f', k', eL, ra, hacc, er', e'⟩ := h
  have jk' := jk (Bf (fun b => B0 b ∨ b = L) p oa) H' (fun b o nb h => k' b o (fun z => nb (.inr (.inl z))) h) (fun b h => by
    rcases h with (h | h) | h | h
    · exact .inl (.inl h)
    · exact .inr (h ▸ hL)
    · exact .inl (.inr (.inl h))
    · exact .inl (.inr (.inr h))) f'.mut
  by_cases hx : i < ds.length
  · have eg : ds[i]? = some ds[i] := List.getElem?_eq_getElem hx
    rw [List.drop_eq_getElem_cons hx] at er'
    simp only [compL] at er'
    obtain ⟨env1, ee, er'⟩ := Option.bind_eq_some_iff.mp er'
    obtain ⟨bb, eb, er'⟩ := Option.bind_eq_some_iff.mp er'
    obtain ⟨go, yl⟩ := jk'.2 i _ eg
    refine .inr ⟨go, fun H2 => ∃ acc done S' rest, FI K p (fun b => B0 b ∨ b = L) oa env σ H2 S' ∧ Keep p H1 H2 ∧ H2 L = some (.lst acc) ∧ Reps K p (Bf (fun b => B0 b ∨ b = L) p oa) H2 acc done ∧ acc.length ≤ i + 1 ∧
      compL t (tt R) (f R) (ds.drop (i + 1)) (wipeE env vs) S' = some rest ∧ r = (done ++ rest.1, rest.2), fun H2 h2 => ⟨m - 1, by omega, by omega, h2⟩, fun v H2 y => ?_⟩
    obtain ⟨s2, r2⟩ := yl v H2 y
    have fo2 := f'.same s2
    have fw2 := fo2.wipe ho
    refine tk _ oa (wipeE env vs) (wipe σ vs) H2 S' v _ env1 _ fw2 r2 ee fun σ3 oa3 f3 m3 w3 o3 => ?_
    have own3 : ∀ b, Own oa b → Own oa3 b := fun b h => by
      rcases o3 b h with z | ⟨j, hj, z⟩
      · exact z
      · rw [ho j (hs j hj)] at z
        cases z
    have bf3 : ∀ b, Bf (fun b => B0 b ∨ b = L) p oa b → Bf (fun b => B0 b ∨ b = L) p oa3 b := fun b h => by
      rcases h with h | h | h
      · exact .inl h
      · exact .inr (.inl h)
      · exact .inr (.inr (own3 b h))
    refine ⟨by rw [w3 vs hs, wipe_twice], env1, S', _, oa3, f3, bb, eb, fun H3 f4 k4 => ?_⟩
    have back : ∀ {H5 : Hp} {S5 : List D}, Keep p H2 H5 → FI K p (fun b => B0 b ∨ b = L) oa3 env1 σ3 H5 S5 → FI K p (fun b => B0 b ∨ b = L) oa env σ H5 S5 := fun {H5 S5} k5 f5 => by
      obtain ⟨us, e5, r5⟩ := f5.pool
      exact fo2.keep k5 ⟨us, e5, r5.less bf3⟩
    have k2 : Keep p H1 H2 := k'.trans (Keep.of s2)
    have ra2 := ra.same s2
    by_cases hb : bb.1 = true
    · rw [if_pos hb] at er'
      dsimp only
      rw [if_pos hb]
      obtain ⟨x, ex, er'⟩ := Option.bind_eq_some_iff.mp er'
      obtain ⟨rest2, er2, er'⟩ := Option.map_eq_some_iff.mp er'
      subst er'
      refine ⟨env1, _, _, oa3, f4, x, ex, fun w H4 f5 k5 r5 => ?_⟩
      have k24 : Keep p H2 H4 := k4.trans k5
      have eL4 : H4 L = some (.lst acc) := k24 L _ hLp (s2 L _ eL)
      have f6 := back k24 f5
      have ra4 := ra2.keep fo2 k24
      have ho' : ∀ j, oa j ≠ some L := fun j z => (f6.dis j L z).1 (.inr rfl)
      have f7 : FI K p (fun b => B0 b ∨ b = L) oa env σ (upd H4 L (.lst (acc ++ [w]))) x.2 := f6.wrote hLp trivial ho'
      have ks : ∀ b u, ¬ Bf (fun b => B0 b ∨ b = L) p oa b → H4 b = some u → upd H4 L (.lst (acc ++ [w])) b = some u := fun b u nb q => by
        rw [upd_ne fun z => nb (.inl (.inr z))]
        exact q
      refine ⟨acc, eL4, by omega, acc ++ [w], done ++ [x.1], x.2, rest2, f7, fun b o nb q => ?_, upd_same, ?_, by rw [List.length_append, List.length_singleton]; omega, er2, ?_⟩
      · rw [upd_ne (ne_of_none q hL)]
        exact (k2.trans k24) b o nb q
      · exact (ra4.append (Reps.one (r5.less bf3))).move ks (fun _ q => .inl q) f6.mut
      · rw [e', List.append_assoc]
        rfl
    · rw [if_neg hb] at er'
      dsimp only
      rw [if_neg hb]
      refine ⟨acc, done, _, rest, back k4 f4, k2.trans k4, k4 L _ hLp (s2 L _ eL), ra2.keep fo2 k4, by omega, er', e'⟩
  · have hl' : i = ds.length := by omega
    subst hl'
    rw [List.drop_length] at er'
    simp only [compL] at er'
    cases er'
    refine .inl ⟨jk'.1, k L acc H' hL ?_ k' eL ?_⟩
    · rw [e']
      exact f'
    · rw [e']
      simpa using ra
theorem comp_tLc {K : PySem.W.Frag} {it : IM} {t : Tg} {g : TG} {vs : List Nat} {tt : TM} {f : XM} {R : RC} (tk : TgOk K p t g) {σ : L2.St} {H : Hp} {Q : VK} (q : tLI K p (lComp it t vs tt f R) σ H Q) :
    tLc (tII K p (it R)) g (tTI K p (tt R)) (tI K p (f R)) vs σ H Q := by
  obtain ⟨env, S, B0, oa, f0, w, e1, k⟩ := q
  unfold lComp at e1
  split at e1
  · rename_i hg
    obtain ⟨g1, g2⟩ := Bool.and_eq_true_iff.mp hg
    obtain ⟨x, ex, e1⟩ := Option.bind_eq_some_iff.mp e1
    split at e1
    · rename_i hl
      refine ⟨env, S, B0, oa, f0, x, ex, fun J H1 f1 k1 jk => ?_⟩
      refine comp_run tk (fun i hi => of_decide_eq_true (List.all_eq_true.mp g2 i hi)) (fun i hi => notOwn_oa f1 (List.all_eq_true.mp g1 i hi)) hl e1 f1 jk fun L vs' H' hL f' k' eL r' => ?_
      refine k L vs' H' f' (k1.trans k') ?_ eL r'
      cases hq : H L with
      | none => rfl
      | some o =>
        by_cases hp : L = p
        · subst hp
          exact absurd hL f1.pool.some
        · rw [k1 L o hp hq] at hL
          cases hL
    · cases e1
  · cases e1
theorem il_comp {it : IM} {t : Tg} {g : TG} {tt : TM} {f : XM} {R : RC} {ifs : List Expr} {scope : Scope} {own : List (Str × Nat)} (tk : TgOk X.K p t g) (hc : X.calm = true) (hN : X.N.Nodup) (hi : PI X tg iter (tII X.K p (it R))) (ok : BlkOk X.N X.env.scope scope own)
    (hg : ∀ (s : Shared) (H : Hp) (C : Addr) (cl : List (Str × Addr)) (fp : List Addr), PG (X.blk s H scope (compEnvC scope cl C X.env) fp) tg g) (ht : ∀ (s : Shared) (H : Hp) (C : Addr) (cl : List (Str × Addr)) (fp : List Addr), PTs (X.blk s H scope (compEnvC scope cl C X.env) fp) ifs (tTI X.K p (tt R)))
    (he : ∀ (s : Shared) (H : Hp) (C : Addr) (cl : List (Str × Addr)) (fp : List Addr), PE (X.blk s H scope (compEnvC scope cl C X.env) fp) elt (tI X.K p (f R))) (hs : ∀ x, foldedSetIterable iter X.env x = pure x) :
    PE X (.ListComp elt [⟨tg, iter, ifs, 0⟩] scope pos) (tLI X.K p (lComp it t (own.map (·.2)) tt f R)) := (pe_lc hc hN hi ok hg ht he hs).imp fun σ H Q q => comp_tLc tk q
def mYes : TM := fun _ _ S => some (true, S)
theorem its_nil {R : RC} : PTs X [] (tTI X.K p (mYes R)) := ⟨fun pins s σ H Q I h => pts_nil.run pins s σ H Q I (by
  obtain ⟨env, S, B0, oa, f0, w, e1, k⟩ := h
  cases e1
  exact k H f0 (Keep.refl p H))⟩
theorem its_one {f : TM} {R : RC} (h : PT X c (tTI X.K p (f R))) : PTs X [c] (tTI X.K p (f R)) := pts_one h

/-! ### lists and dicts of the frame's own -/
inductive VOk (K : PySem.W.Frag) (p : Addr) (B0 : Addr → Prop) (oa : Oa) (env : En) (σ : L2.St) (H H' : Hp) (S' : List D) : SV → V → Prop
  | sh {v : V} {d : D} : FI K p B0 oa env σ H' S' → Keep p H H' → Rep K p (Bf B0 p oa) H' v d → VOk K p B0 oa env σ H H' S' (.sh d) v
  | own {a : Addr} {x : SV} : FI K p (fun b => B0 b ∨ b = a) oa env σ H' S' → Keep p H H' → H a = none → OwnAt K p (Bf (fun b => B0 b ∨ b = a) p oa) H' a x → ¬ B0 a → a ≠ p → (∀ j, oa j ≠ some a) → (∀ d, x ≠ .sh d) → VOk K p B0 oa env σ H H' S' x (.ref a)
theorem VOk.put {K : PySem.W.Frag} {B0 : Addr → Prop} {oa : Oa} {env : En} {σ : L2.St} {H H' : Hp} {S' : List D} {x : SV} {v : V} (h : VOk K p B0 oa env σ H H' S' x v) {i : Nat} (hi : i < env.length) :
    ∃ oa', FI K p B0 oa' (env.set i (some x)) (σ.set i (some v)) H' S' ∧ Mv p oa oa' H H' := by
  cases h with
  | sh f k r => exact ⟨_, f.set i r, (k.mv f.pool.some).trans (Mv.drop i)⟩
  | @own a _ f k ha q nb np no nx =>
    refine ⟨_, f.setOwn i hi np nb no nx q, ⟨fun b o n _ h => k b o n h, fun z => absurd z f.pool.some, fun b h => ?_⟩⟩
    rcases own_put h with z | z
    · exact .inl z
    · exact .inr (z ▸ ha)
/-- a value's reading: data, or a new list or dict for a slot -/
def tVI (K : PySem.W.Frag) (p : Addr) (f : En → List D → Option (SV × List D)) : TE := fun σ H Q => ∃ env S B0 oa, FI K p B0 oa env σ H S ∧ ∃ r, f env S = some r ∧ ∀ v H', VOk K p B0 oa env σ H H' r.2 r.1 v → Q v H'
def vSh (f : XM) : RM := fun R env S => (f R env S).map fun x => (.sh x.1, x.2)
def vOwn (f : LM) : RM := fun R env S => (f R env S).map fun x => (.own x.1, x.2)
theorem iv_sh {f : XM} {R : RC} (h : PE X e (tI X.K p (f R))) : PE X e (tVI X.K p (vSh f R)) := h.imp fun σ H Q q => by
  obtain ⟨env, S, B0, oa, f0, w, e1, k⟩ := q
  unfold vSh at e1
  obtain ⟨x, ex, e1⟩ := Option.map_eq_some_iff.mp e1
  subst e1
  exact ⟨env, S, B0, oa, f0, x, ex, fun v H' f1 k1 r1 => k v H' (.sh f1 k1 r1)⟩
theorem iv_own {f : LM} {R : RC} (h : PE X e (tLI X.K p (f R))) : PE X e (tVI X.K p (vOwn f R)) := h.imp fun σ H Q q => by
  obtain ⟨env, S, B0, oa, f0, w, e1, k⟩ := q
  unfold vOwn at e1
  obtain ⟨x, ex, e1⟩ := Option.map_eq_some_iff.mp e1
  subst e1
  refine ⟨env, S, B0, oa, f0, x, ex, fun a vs H' f1 k1 ha hv r1 => k _ H' ?_⟩
  have nb := f0.new ha
  exact .own f1 k1 ha (.own hv r1) (fun z => nb (.inl z)) (fun z => nb (.inr (.inl z))) (fun j z => nb (.inr (.inr ⟨j, z⟩))) fun d z => nomatch z
def sPut (i : Nat) (f : RM) : SM := fun R env S => (f R env S).bind fun x => if i < env.length then some (.nx, env.set i (some x.1), x.2) else none
theorem put_I {i : Nat} {f : RM} {R : RC} {K : PySem.W.Frag} {Dn : Ends} {σ : L2.St} {H : Hp} (q : tIS K p (sPut i f R) Dn σ H) : tAsg (tVI K p (f R)) (gName i) Dn σ H := by
  obtain ⟨env, S, B0, oa, f0, w, e1, k⟩ := q
  unfold sPut at e1
  obtain ⟨x, ex, e1⟩ := Option.bind_eq_some_iff.mp e1
  split at e1
  · rename_i hi
    cases e1
    refine ⟨env, S, B0, oa, f0, x, ex, fun v H1 h1 => ?_⟩
    obtain ⟨oa', f1, m1⟩ := h1.put hi
    exact k _ H1 oa' f1 m1
  · cases e1
theorem is_put {i : Nat} {x : Str} {f : RM} {R : RC} {pos' : Pos} (hN : X.N.Nodup) (hi : X.N[i]? = some x) (hx : Loc X.env.scope x) (h : PE X e (tVI X.K p (f R))) (hs : swapsWith e (some (.Name x pos')) pos.line X.env = pure false) (hf : X.fn x = true ∨ X.env.scope.names.lookup x = some .local) :
    PS X (.Assign [.Name x pos'] e pos) (tIS X.K p (sPut i f R)) := (ps_set hN hi hx h hs hf).imp fun Dn σ H q => put_I q
/-- name = [..] on one line, the name a local -/
theorem is_putC {i : Nat} {y : Str} {py : Pos} {it : IM} {t : Tg} {g : TG} {tt : TM} {f : XM} {F : RM} {R : RC} {ifs : List Expr} {scope : Scope} {own : List (Str × Nat)} {spos : Pos} (tk : TgOk X.K p t g) (hc : X.calm = true) (hN : X.N.Nodup) (hy : X.N[i]? = some y) (hyl : X.env.scope.names.lookup y = some .local)
    (hsw : swapsWith (.ListComp elt [⟨tg, iter, ifs, 0⟩] scope pos) (some (.Name y py)) spos.line X.env = pure true) (hi : PI X tg iter (tII X.K p (it R))) (ok : BlkOk X.N X.env.scope scope own)
    (hg : ∀ (s : Shared) (H : Hp) (C : Addr) (cl : List (Str × Addr)) (fp : List Addr), PG (X.blk s H scope (compEnvC scope cl C X.env) fp) tg g) (ht : ∀ (s : Shared) (H : Hp) (C : Addr) (cl : List (Str × Addr)) (fp : List Addr), PTs (X.blk s H scope (compEnvC scope cl C X.env) fp) ifs (tTI X.K p (tt R)))
    (he : ∀ (s : Shared) (H : Hp) (C : Addr) (cl : List (Str × Addr)) (fp : List Addr), PE (X.blk s H scope (compEnvC scope cl C X.env) fp) elt (tI X.K p (f R))) (hs : ∀ x, foldedSetIterable iter X.env x = pure x)
    (hF : ∀ σ H Q, tVI X.K p (F R) σ H Q → tLI X.K p (lComp it t (own.map (·.2)) tt f R) σ H Q) :
    PS X (.Assign [.Name y py] (.ListComp elt [⟨tg, iter, ifs, 0⟩] scope pos) spos) (tIS X.K p (sPut i F R)) := (ps_setLc hc hN hy hyl hsw hi ok hg ht he hs).imp fun Dn σ H q => by
  have z := put_I q
  exact comp_tLc tk (hF σ H _ z)
theorem vown_tLI {K : PySem.W.Frag} {f : LM} {R : RC} {σ : L2.St} {H : Hp} {Q : VK} (q : tVI K p (vOwn f R) σ H Q) : tLI K p (f R) σ H Q := by
  obtain ⟨env, S, B0, oa, f0, w, e1, k⟩ := q
  unfold vOwn at e1
  obtain ⟨x, ex, e1⟩ := Option.map_eq_some_iff.mp e1
  subst e1
  refine ⟨env, S, B0, oa, f0, x, ex, fun a vs H' f1 k1 ha hv r1 => k _ H' ?_⟩
  have nb := f0.new ha
  exact .own f1 k1 ha (.own hv r1) (fun z => nb (.inl z)) (fun z => nb (.inr (.inl z))) (fun j z => nb (.inr (.inr ⟨j, z⟩))) fun d z => nomatch z
theorem vsh_tI {K : PySem.W.Frag} {f : XM} {R : RC} {σ : L2.St} {H : Hp} {Q : VK} (q : tVI K p (vSh f R) σ H Q) : tI K p (f R) σ H Q := by
  obtain ⟨env, S, B0, oa, f0, w, e1, k⟩ := q
  unfold vSh at e1
  obtain ⟨x, ex, e1⟩ := Option.map_eq_some_iff.mp e1
  subst e1
  exact ⟨env, S, B0, oa, f0, x, ex, fun v H' f1 k1 r1 => k v H' (.sh f1 k1 r1)⟩

/-! ### two or three names at once: a, b = e1, e2 -/
end
end Ip

set_option maxHeartbeats 1000000
/-! IpE: operations on values. -/
namespace Ip
open PySem L2

section
variable {K : PySem.W.Frag} {p : Addr} {B : Addr → Prop} {H H' : Hp}
theorem Rep.isInt {v : V} {i : Int} (h : Rep K p B H v (.int i)) : v = .int i := by cases h; rfl
theorem Rep.isStr {v : V} {x : Str} (h : Rep K p B H v (.str x)) : v = .str x := by cases h; rfl
theorem Rep.isNon {v : V} (h : Rep K p B H v .non) : v = .non := by cases h; rfl
theorem Rep.isTy {v : V} {n : String} (h : Rep K p B H v (.ty n)) : v = .ty n := by cases h; rfl
theorem Reps.one_inv {vs : List V} {d : D} (h : Reps K p B H vs [d]) : ∃ v, vs = [v] ∧ Rep K p B H v d := by
  cases h with
  | cons r t => cases t; exact ⟨_, rfl, r⟩
theorem Reps.two_inv {vs : List V} {d e : D} (h : Reps K p B H vs [d, e]) : ∃ v w, vs = [v, w] ∧ Rep K p B H v d ∧ Rep K p B H w e := by
  cases h with
  | cons r t =>
    obtain ⟨w, rfl, q⟩ := t.one_inv
    exact ⟨_, _, rfl, r, q⟩
end

theorem OpR.or {X : Cx} {f : Value → Value → Sem Value} {r r' : R2} (h : OpR X f r) (h' : OpR X f r') : OpR X f (fun x y H Q => r x y H Q ∨ r' x y H Q) := fun pins s σ H x y v u Q I rx ry q => by
  rcases q with q | q
  · exact h pins s σ H x y v u Q I rx ry q
  · exact h' pins s σ H x y v u Q I rx ry q
theorem CallR.or {X : Cx} {f : Value} {r r' : List V → Hp → VK → Prop} (h : CallR X f r) (h' : CallR X f r') : CallR X f (fun xs H Q => r xs H Q ∨ r' xs H Q) := fun pins s σ H xs us Q I rx q => by
  rcases q with q | q
  · exact h pins s σ H xs us Q I rx q
  · exact h' pins s σ H xs us Q I rx q

/-! ### + -/
section
variable {X : Cx}
/-- t + u of tuples, every case -/
def rCatX (K : PySem.W.Frag) : R2 := fun x y H Q => ∃ a b xs ys, x = .ref a ∧ y = .ref b ∧ SqT K H a xs ∧ SqT K H b ys ∧ xs.length + ys.length ≤ sizeLine ∧
  (xs = [] → Q (.ref b) H) ∧ (ys = [] → Q (.ref a) H) ∧ ∀ p, H p = none → Q (.ref p) (upd H p (.tup (xs ++ ys)))
theorem op_catX : OpR X (binaryOp .Add) (rCatX X.K) := by
  intro pins s σ H x y v u Q I rx ry h
  obtain ⟨a, b, xs, ys, rfl, rfl, ha, hb, hz, q0, q1, q2⟩ := h
  by_cases hx : xs = []
  · cases rx
    cases ry
    obtain ⟨its, r1, p1, _⟩ := I.tuple ha
    obtain ⟨its2, r2, p2, _⟩ := I.tuple hb
    obtain ⟨⟨cls, dd, data, sl⟩, ho, hc, n, hd⟩ := id p1
    obtain ⟨⟨cls2, dd2, data2, sl2⟩, ho2, hc2, n2, hd2⟩ := id p2
    simp only at hc hd hc2 hd2
    subst hc hd hc2 hd2
    have hi : its.toArray.isEmpty = true := by
      have : its = [] := r1.nil_iff.mpr hx
      subst this
      rfl
    exact PySem.concat_meets ⟨_, ho, rfl⟩ ⟨_, ho2, rfl⟩ PySem.noFill_tuple_add PySem.seq_tuple_add PySem.F.slot_tuple_add PySem.F.entry_tuple_add (PySem.F.args_tuple_add_2 _ _)
      (PyProof.Rows.tuple_addW0 a b its.toArray its2.toArray n n2 dd dd2 sl sl2 hi) ⟨ho, ho2, ⟨.ref b, H, I, rfl, q0 hx⟩⟩
  · exact op_catT pins s σ H (.ref a) (.ref b) v u Q I rx ry ⟨a, b, xs, ys, rfl, rfl, ha, hb, hx, hz, q1, fun _ => q2⟩
def rAddX (K : PySem.W.Frag) : R2 := fun x y H Q => (rI0 fun i j => .int (i + j)) x y H Q ∨ (∃ i j, x = .str i ∧ y = .str j ∧ i.length + j.length ≤ sizeLine ∧ Q (.str (i ++ j)) H) ∨ rCat x y H Q ∨ rCatX K x y H Q
theorem op_addX : OpR X (binaryOp .Add) (rAddX X.K) := op_add.or (op_add_str.or (op_cat.or op_catX))
end
def addD : D → D → Option D
  | .int i, .int j => some (.int (i + j))
  | .str x, .str y => if x.length + y.length ≤ sizeLine then some (.str (x ++ y)) else none
  | .lst xs, .lst ys => if xs.length + ys.length ≤ sizeLine then some (.lst (xs ++ ys)) else none
  | .tup xs, .tup ys => if xs.length + ys.length ≤ sizeLine then some (.tup (xs ++ ys)) else none
  | _, _ => none
section
variable {K : PySem.W.Frag} {p : Addr}
theorem Reps.nil_iff {B : Addr → Prop} {H : Hp} {vs : List V} {ds : List D} (r : Reps K p B H vs ds) : vs = [] ↔ ds = [] := by
  cases r with
  | nil => exact ⟨fun _ => rfl, fun _ => rfl⟩
  | cons _ _ => exact ⟨(fun h => nomatch h), (fun h => nomatch h)⟩
theorem vr_add : VR2 K p (rAddX K) addD := fun B H x y d1 d2 d Q hm r1 r2 e k => by
  cases r1 <;> cases r2 <;> simp only [addD] at e <;> first
    | cases e; done
    | skip
  · cases e
    exact .inl ⟨_, _, rfl, rfl, k _ H (Same.refl H) (.int _)⟩
  · split at e
    · rename_i h
      cases e
      exact .inr (.inl ⟨_, _, rfl, rfl, h, k _ H (Same.refl H) (.str _)⟩)
    · cases e
  · rename_i h1 q1 _ _ _ h2 q2
    split at e
    · rename_i h
      cases e
      refine .inr (.inr (.inr ⟨_, _, _, _, rfl, rfl, h1, h2, by rw [q1.length, q2.length]; exact h, fun z => ?_, fun z => ?_, fun a ha => ?_⟩))
      · have z' := q1.nil_iff.mp z
        subst z'
        exact k _ H (Same.refl H) (.tup h2 q2)
      · have z' := q2.nil_iff.mp z
        subst z'
        rw [List.append_nil] at k
        exact k _ H (Same.refl H) (.tup h1 q1)
      · exact k _ _ (same_new ha) ((q1.append q2).tup ha)
    · cases e
  · rename_i h1 _ q1 _ _ _ h2 _ q2
    split at e
    · rename_i h
      cases e
      refine .inr (.inr (.inl ⟨_, _, _, _, rfl, rfl, h1, h2, by rw [q1.length, q2.length]; exact h, fun a ha => ?_⟩))
      exact k _ _ (same_new ha) ((q1.append q2).lst hm ha)
    · cases e

/-! ### numbers -/
def intD (g : Int → Int → Option Int) : D → D → Option D
  | .int i, .int j => (g i j).map .int
  | _, _ => none
theorem vr_int {C : Int → Int → Prop} {g : Int → Int → Int} {g' : Int → Int → Option Int} (hg : ∀ i j k, g' i j = some k → C i j ∧ k = g i j) : VR2 K p (rI C fun i j => .int (g i j)) (intD g') := fun B H x y d1 d2 d Q hm r1 r2 e k => by
  cases r1 <;> cases r2 <;> simp only [intD] at e <;> first
    | cases e; done
    | skip
  obtain ⟨z, ez, e⟩ := Option.map_eq_some_iff.mp e
  subst e
  obtain ⟨hc, rfl⟩ := hg _ _ _ ez
  exact ⟨_, _, rfl, rfl, hc, k _ H (Same.refl H) (.int _)⟩
theorem vr_int0 {g : Int → Int → Int} : VR2 K p (rI0 fun i j => .int (g i j)) (intD fun i j => some (g i j)) := fun B H x y d1 d2 d Q hm r1 r2 e k => by
  cases r1 <;> cases r2 <;> simp only [intD] at e <;> first
    | cases e; done
    | skip
  cases e
  exact ⟨_, _, rfl, rfl, k _ H (Same.refl H) (.int _)⟩
def subD : D → D → Option D := intD fun i j => some (i - j)
def mulI (i j : Int) : Option Int := if (-(2 ^ 64) < i ∧ i < 2 ^ 64) ∨ (-(2 ^ 64) < j ∧ j < 2 ^ 64) then some (i * j) else none
def modI (i j : Int) : Option Int := if j ≠ 0 then some (i.fmod j) else none
def divI (i j : Int) : Option Int := if j ≠ 0 ∧ j.natAbs < 1073741824 then some (i.fdiv j) else none
theorem mulI_ok (i j k : Int) (h : mulI i j = some k) : CMul i j ∧ k = i * j := by
  unfold mulI at h
  split at h
  · rename_i c
    cases h
    exact ⟨c, rfl⟩
  · cases h
theorem modI_ok (i j k : Int) (h : modI i j = some k) : j ≠ 0 ∧ k = i.fmod j := by
  unfold modI at h
  split at h
  · rename_i c
    cases h
    exact ⟨c, rfl⟩
  · cases h
theorem divI_ok (i j k : Int) (h : divI i j = some k) : CDivN i j ∧ k = i.fdiv j := by
  unfold divI at h
  split at h
  · rename_i c
    cases h
    exact ⟨c, rfl⟩
  · cases h
def mulD : D → D → Option D := intD mulI
def modD : D → D → Option D := intD modI
def divD : D → D → Option D := intD divI
def negD : D → Option D
  | .int i => some (.int (-i))
  | _ => none
theorem vr_neg : VR1 K p (rU fun i => .int (-i)) negD := fun B H x d1 d Q hm r1 e k => by
  cases r1 <;> simp only [negD] at e <;> first
    | cases e; done
    | skip
  cases e
  exact ⟨_, rfl, k _ H (Same.refl H) (.int _)⟩
end
/-! ### order -/
def ordD (g : Int → Int → Bool) (gs : List Nat → List Nat → Bool) : D → D → Option D
  | .int i, .int j => some (.bl (g i j))
  | .str x, .str y => some (.bl (gs x.cps.toList y.cps.toList))
  | _, _ => none
def rOrd (g : Int → Int → Bool) (gs : List Nat → List Nat → Bool) : R2 := fun x y H Q => (rI0 fun i j => .bl (g i j)) x y H Q ∨ ∃ i j, x = .str i ∧ y = .str j ∧ Q (.bl (gs i.cps.toList j.cps.toList)) H
theorem vr_ord {K : PySem.W.Frag} {p : Addr} {g : Int → Int → Bool} {gs : List Nat → List Nat → Bool} : VR2 K p (rOrd g gs) (ordD g gs) := fun B H x y d1 d2 d Q hm r1 r2 e k => by
  cases r1 <;> cases r2 <;> simp only [ordD] at e <;> first
    | cases e; done
    | skip
  · cases e
    exact .inl ⟨_, _, rfl, rfl, k _ H (Same.refl H) (.bl _)⟩
  · cases e
    exact .inr ⟨_, _, rfl, rfl, k _ H (Same.refl H) (.bl _)⟩
def ltD : D → D → Option D := ordD (fun i j => decide (i < j)) fun x y => decide (x < y)
def leD : D → D → Option D := ordD (fun i j => decide (i ≤ j)) fun x y => !decide (y < x)
def gtD : D → D → Option D := ordD (fun i j => decide (j < i)) fun x y => decide (y < x)
def geD : D → D → Option D := ordD (fun i j => decide (j ≤ i)) fun x y => !decide (x < y)
/-! ### == -/
mutual
def toPy : D → Option PyData
  | .non => some .none
  | .bl b => some (.bool b)
  | .int i => some (.int i)
  | .str x => some (.str x)
  | .tup xs => (toPys xs).map .tuple
  | .lst xs => (toPys xs).map .list
  | _ => none
def toPys : List D → Option (List PyData)
  | [] => some []
  | d :: ds => (toPy d).bind fun a => (toPys ds).map fun as => a :: as
end
/-- scalars of one kind, None beside any scalar -/
def scalD : D → D → Option Bool
  | .int i, .int j => some (decide (i = j))
  | .str x, .str y => some (decide (x = y))
  | .bl a, .bl b => some (decide (a = b))
  | .non, .non => some true
  | .non, .int _ => some false
  | .int _, .non => some false
  | .non, .bl _ => some false
  | .bl _, .non => some false
  | .non, .str _ => some false
  | .str _, .non => some false
  | .int _, .str _ => some false
  | .str _, .int _ => some false
  | .bl _, .str _ => some false
  | .str _, .bl _ => some false
  | _, _ => none
def dataEq (d e : D) : Option Bool := (toPy d).bind fun a => (toPy e).bind fun b => if SeqAt.shaped a && SeqAt.shaped b then some (PyData.eqv a b) else none
def eqB (d e : D) : Option Bool := match scalD d e with
  | some b => some b
  | none => dataEq d e
def eqD (d e : D) : Option D := (eqB d e).map .bl
def neD (d e : D) : Option D := (eqB d e).map fun b => .bl (!b)
section
variable {K : PySem.W.Frag} {p : Addr} {B : Addr → Prop} {H : Hp}
mutual
theorem Rep.dp : ∀ (d : D) (v : V) (a : PyData), Rep K p B H v d → toPy d = some a → Dp K H v a
  | .non, _, _, r, e => by cases r; cases e; exact .non
  | .bl b, _, _, r, e => by cases r; cases e; exact .bl b
  | .int b, _, _, r, e => by cases r; cases e; exact .int b
  | .str b, _, _, r, e => by cases r; cases e; exact .str b
  | .tup ds, _, _, r, e => by
    cases r with
    | tup h q =>
      simp only [toPy] at e
      obtain ⟨as, ea, rfl⟩ := Option.map_eq_some_iff.mp e
      exact .tup h (Reps.dp ds _ as q ea)
  | .lst ds, _, _, r, e => by
    cases r with
    | lst h nb q =>
      simp only [toPy] at e
      obtain ⟨as, ea, rfl⟩ := Option.map_eq_some_iff.mp e
      exact .lst (.inl (.inl h)) (Reps.dp ds _ as q ea)
  | .dic _ _, _, _, _, e => by simp [toPy] at e
  | .ins _ _, _, _, _, e => by simp [toPy] at e
  | .rng _ _, _, _, _, e => by simp [toPy] at e
  | .ty _, _, _, _, e => by simp [toPy] at e
  | .pool, _, _, _, e => by simp [toPy] at e
theorem Reps.dp : ∀ (ds : List D) (vs : List V) (as : List PyData), Reps K p B H vs ds → toPys ds = some as → DpAll K H vs as
  | [], _, _, r, e => by cases r; cases e; exact .nil
  | d :: ds, _, _, r, e => by
    cases r with
    | cons r1 r2 =>
      simp only [toPys] at e
      obtain ⟨a, ea, e⟩ := Option.bind_eq_some_iff.mp e
      obtain ⟨as, eas, rfl⟩ := Option.map_eq_some_iff.mp e
      exact .cons (Rep.dp d _ a r1 ea) (Reps.dp ds _ as r2 eas)
end
theorem scal_rep {d e : D} {x y : V} {b : Bool} (r1 : Rep K p B H x d) (r2 : Rep K p B H y e) (h : scalD d e = some b) : scal x y = true ∧ decide (x = y) = b := by
  cases r1 <;> cases r2 <;> simp only [scalD] at h <;> first
    | cases h; done
    | (cases h; refine ⟨rfl, ?_⟩; simp)
def rEqX (K : PySem.W.Frag) : R2 := fun x y H Q => rEq x y H Q ∨ rEqD K x y H Q
def rNeX (K : PySem.W.Frag) : R2 := fun x y H Q => rNe x y H Q ∨ rNeD K x y H Q
theorem vr_eq : VR2 K p (rEqX K) eqD := fun B H x y d1 d2 d Q hm r1 r2 e k => by
  unfold eqD at e
  obtain ⟨b, eb, rfl⟩ := Option.map_eq_some_iff.mp e
  unfold eqB at eb
  split at eb
  · rename_i b' hs
    cases eb
    obtain ⟨h1, h2⟩ := scal_rep r1 r2 hs
    exact .inl ⟨h1, by rw [h2]; exact k _ H (Same.refl H) (.bl _)⟩
  · unfold dataEq at eb
    obtain ⟨a, ea, eb⟩ := Option.bind_eq_some_iff.mp eb
    obtain ⟨c, ec, eb⟩ := Option.bind_eq_some_iff.mp eb
    split at eb
    · rename_i hs
      cases eb
      obtain ⟨s1, s2⟩ := Bool.and_eq_true_iff.mp hs
      exact .inr ⟨a, c, r1.dp _ _ _ ea, r2.dp _ _ _ ec, s1, s2, k _ H (Same.refl H) (.bl _)⟩
    · cases eb
theorem vr_ne : VR2 K p (rNeX K) neD := fun B H x y d1 d2 d Q hm r1 r2 e k => by
  unfold neD at e
  obtain ⟨b, eb, rfl⟩ := Option.map_eq_some_iff.mp e
  unfold eqB at eb
  split at eb
  · rename_i b' hs
    cases eb
    obtain ⟨h1, h2⟩ := scal_rep r1 r2 hs
    exact .inl ⟨h1, by rw [h2]; exact k _ H (Same.refl H) (.bl _)⟩
  · unfold dataEq at eb
    obtain ⟨a, ea, eb⟩ := Option.bind_eq_some_iff.mp eb
    obtain ⟨c, ec, eb⟩ := Option.bind_eq_some_iff.mp eb
    split at eb
    · rename_i hs
      cases eb
      obtain ⟨s1, s2⟩ := Bool.and_eq_true_iff.mp hs
      exact .inr ⟨a, c, r1.dp _ _ _ ea, r2.dp _ _ _ ec, s1, s2, k _ H (Same.refl H) (.bl _)⟩
    · cases eb
/-! ### is None -/
def isND : D → D → Option D
  | .non, .non => some (.bl true)
  | _, .non => some (.bl false)
  | _, _ => none
def isNND : D → D → Option D
  | .non, .non => some (.bl false)
  | _, .non => some (.bl true)
  | _, _ => none
theorem vr_isN : VR2 K p (fun x y H Q => y = .non ∧ Q (.bl (decide (x = .non))) H) isND := fun B H x y d1 d2 d Q hm r1 r2 e k => by
  cases r2 <;> cases r1 <;> simp only [isND] at e <;> first
    | cases e; done
    | (cases e; exact ⟨rfl, k _ H (Same.refl H) (.bl _)⟩)
theorem vr_isNN : VR2 K p (fun x y H Q => y = .non ∧ Q (.bl (!decide (x = .non))) H) isNND := fun B H x y d1 d2 d Q hm r1 r2 e k => by
  cases r2 <;> cases r1 <;> simp only [isNND] at e <;> first
    | cases e; done
    | (cases e; exact ⟨rfl, k _ H (Same.refl H) (.bl _)⟩)
/-! ### in -/
def flatD : D → Bool
  | .non => true
  | .bl _ => true
  | .int _ => true
  | .str _ => true
  | _ => false
def eqF : D → D → Bool
  | .non, .non => true
  | .bl a, .bl b => a == b
  | .bl a, .int b => (if a then 1 else 0) == b
  | .int a, .bl b => a == (if b then 1 else 0)
  | .int a, .int b => a == b
  | .str a, .str b => a == b
  | _, _ => false
theorem flat_rep {d : D} {v : V} (r : Rep K p B H v d) : flatV v = flatD d := by cases r <;> rfl
theorem flats_rep : ∀ {ds : List D} {vs : List V}, Reps K p B H vs ds → vs.all flatV = ds.all flatD
  | _, _, .nil => rfl
  | _, _, .cons r t => by rw [List.all_cons, List.all_cons, flat_rep r, flats_rep t]
theorem eqF_rep {d e : D} {x y : V} (r : Rep K p B H x d) (q : Rep K p B H y e) : eqV x y = eqF d e := by cases r <;> cases q <;> rfl
theorem inF_rep {d : D} {x : V} (r : Rep K p B H x d) : ∀ {ds : List D} {vs : List V}, Reps K p B H vs ds → inV x vs = ds.any fun y => eqF y d
  | _, _, .nil => rfl
  | _, _, .cons q t => by
    have ih := inF_rep r t
    unfold inV at ih ⊢
    rw [List.any_cons, List.any_cons, eqF_rep q r, ih]
def lookK : List Key → List D → Key → Option D
  | k :: ks, d :: ds, k' => if k = k' then some d else lookK ks ds k'
  | _, _, _ => none
def keyD : D → Option Key
  | .int i => some (.inl i)
  | .str x => some (.inr x)
  | _ => none
theorem key_rep {d : D} {v : V} {k : Key} (r : Rep K p B H v d) (h : keyD d = some k) : v = kV k := by
  cases r <;> simp only [keyD] at h <;> first
    | cases h; done
    | (cases h; rfl)
def inB : D → D → Option Bool
  | d, .tup ds => if flatD d && ds.all flatD then some (ds.any fun y => eqF y d) else none
  | d, .lst ds => if flatD d && ds.all flatD then some (ds.any fun y => eqF y d) else none
  | .str x, .str y => some (!(Builtin.Str.occurrences y x 0 y.length 1).isEmpty)
  | _, _ => none
def inD (d e : D) : Option D := (inB d e).map .bl
def ninD (d e : D) : Option D := (inB d e).map fun b => .bl (!b)
def rInX (K : PySem.W.Frag) : R2 := fun x y H Q => rIn K false x y H Q ∨ ∃ i j, x = .str i ∧ y = .str j ∧ Q (.bl (!(Builtin.Str.occurrences j i 0 j.length 1).isEmpty)) H
def rNinX (K : PySem.W.Frag) : R2 := fun x y H Q => rIn K true x y H Q ∨ ∃ i j, x = .str i ∧ y = .str j ∧ Q (.bl (!(!(Builtin.Str.occurrences j i 0 j.length 1).isEmpty))) H
theorem vr_in : VR2 K p (rInX K) inD := fun B H x y d1 d2 d Q hm r1 r2 e k => by
  unfold inD at e
  obtain ⟨b, eb, rfl⟩ := Option.map_eq_some_iff.mp e
  unfold inB at eb
  split at eb
  · split at eb
    · rename_i ds hs
      cases eb
      obtain ⟨s1, s2⟩ := Bool.and_eq_true_iff.mp hs
      cases r2 with
      | tup h q => exact .inl ⟨_, _, rfl, .inr h, by rw [flat_rep r1]; exact s1, by rw [flats_rep q]; exact s2, by rw [inF_rep r1 q]; exact k _ H (Same.refl H) (.bl _)⟩
    · cases eb
  · split at eb
    · rename_i ds hs
      cases eb
      obtain ⟨s1, s2⟩ := Bool.and_eq_true_iff.mp hs
      cases r2 with
      | lst h nb q => exact .inl ⟨_, _, rfl, .inl (.inl (.inl h)), by rw [flat_rep r1]; exact s1, by rw [flats_rep q]; exact s2, by rw [inF_rep r1 q]; exact k _ H (Same.refl H) (.bl _)⟩
    · cases eb
  · cases eb
    rw [r1.isStr, r2.isStr]
    exact .inr ⟨_, _, rfl, rfl, k _ H (Same.refl H) (.bl _)⟩
  · cases eb
theorem vr_nin : VR2 K p (rNinX K) ninD := fun B H x y d1 d2 d Q hm r1 r2 e k => by
  unfold ninD at e
  obtain ⟨b, eb, rfl⟩ := Option.map_eq_some_iff.mp e
  unfold inB at eb
  split at eb
  · split at eb
    · rename_i ds hs
      cases eb
      obtain ⟨s1, s2⟩ := Bool.and_eq_true_iff.mp hs
      cases r2 with
      | tup h q => exact .inl ⟨_, _, rfl, .inr h, by rw [flat_rep r1]; exact s1, by rw [flats_rep q]; exact s2, by rw [inF_rep r1 q]; exact k _ H (Same.refl H) (.bl _)⟩
    · cases eb
  · split at eb
    · rename_i ds hs
      cases eb
      obtain ⟨s1, s2⟩ := Bool.and_eq_true_iff.mp hs
      cases r2 with
      | lst h nb q => exact .inl ⟨_, _, rfl, .inl (.inl (.inl h)), by rw [flat_rep r1]; exact s1, by rw [flats_rep q]; exact s2, by rw [inF_rep r1 q]; exact k _ H (Same.refl H) (.bl _)⟩
    · cases eb
  · cases eb
    rw [r1.isStr, r2.isStr]
    exact .inr ⟨_, _, rfl, rfl, k _ H (Same.refl H) (.bl _)⟩
  · cases eb
/-! ### xs[i] -/
def ixD : D → D → Option D
  | .tup ds, .int i => atI ds i
  | .lst ds, .int i => atI ds i
  | .str x, .int i => if x.length ≤ sizeLine then (atI x.cps.toList i).map fun c => .str ⟨#[c]⟩ else none
  | _, _ => none
theorem Reps.atI {ds : List D} {vs : List V} {i : Int} {d : D} (r : Reps K p B H vs ds) (h : L2.atI ds i = some d) : ∃ v, L2.atI vs i = some v ∧ Rep K p B H v d := by
  unfold L2.atI at h ⊢
  rw [r.length]
  obtain ⟨j, ej, h⟩ := Option.bind_eq_some_iff.mp h
  obtain ⟨v, ev, q⟩ := r.get h
  exact ⟨v, by rw [ej]; exact ev, q⟩
theorem vr_ix : VR2 K p (rIx K) ixD := fun B H x y d1 d2 d Q hm r1 r2 e k => by
  cases r1 <;> cases r2 <;> simp only [ixD] at e <;> first
    | cases e; done
    | skip
  · split at e
    · rename_i h
      obtain ⟨c, ec, rfl⟩ := Option.map_eq_some_iff.mp e
      exact .inr (.inr ⟨_, _, c, rfl, rfl, h, ec, k _ H (Same.refl H) (.str _)⟩)
    · cases e
  · rename_i h q _
    obtain ⟨v, ev, rv⟩ := q.atI e
    exact .inr (.inl ⟨_, _, _, v, rfl, rfl, h, ev, k v H (Same.refl H) rv⟩)
  · rename_i h nb q _
    obtain ⟨v, ev, rv⟩ := q.atI e
    exact .inl ⟨_, _, _, v, rfl, rfl, .inl (.inl h), ev, k v H (Same.refl H) rv⟩
end

/-! ### calls of built-ins -/
section
variable {K : PySem.W.Frag} {p : Addr} {B : Addr → Prop} {H : Hp}
def lenD : List D → Option D
  | [.str x] => if x.length ≤ sizeLine then some (.int x.length) else none
  | [.tup ds] => some (.int ds.length)
  | [.lst ds] => some (.int ds.length)
  | _ => none
theorem vra_len : VRA K p (fun xs H Q => ∃ x n, xs = [x] ∧ LenV K x H n ∧ Q (.int n) H) lenD := fun B H xs ds d Q hm r e k => by
  unfold lenD at e
  split at e
  · obtain ⟨v, rfl, r'⟩ := r.one_inv
    rw [r'.isStr]
    split at e
    · rename_i h
      cases e
      exact ⟨_, _, rfl, ⟨h, rfl⟩, k _ H (Same.refl H) (.int _)⟩
    · cases e
  · obtain ⟨v, rfl, r'⟩ := r.one_inv
    cases e
    cases r' with
    | tup h q => exact ⟨_, _, rfl, .inr ⟨_, h, rfl⟩, by rw [q.length]; exact k _ H (Same.refl H) (.int _)⟩
  · obtain ⟨v, rfl, r'⟩ := r.one_inv
    cases e
    cases r' with
    | lst h nb q => exact ⟨_, _, rfl, .inl ⟨_, .inl (.inl h), rfl⟩, by rw [q.length]; exact k _ H (Same.refl H) (.int _)⟩
  · cases e
def intOf : List D → Option D
  | [.int i] => some (.int i)
  | [.bl b] => some (.int (if b then 1 else 0))
  | _ => none
theorem vra_int : VRA K p (fun xs H Q => (∃ i, xs = [.int i] ∧ Q (.int i) H) ∨ ∃ k, xs = [.bl k] ∧ Q (.int (if k then 1 else 0)) H) intOf := fun B H xs ds d Q hm r e k => by
  unfold intOf at e
  split at e
  · obtain ⟨v, rfl, r'⟩ := r.one_inv
    cases e
    rw [r'.isInt]
    exact .inl ⟨_, rfl, k _ H (Same.refl H) (.int _)⟩
  · obtain ⟨v, rfl, r'⟩ := r.one_inv
    cases e
    rw [rep_bl r']
    exact .inr ⟨_, rfl, k _ H (Same.refl H) (.int _)⟩
  · cases e
/-- a value's type -/
def tyD : D → Option String
  | .non => some "NoneType"
  | .bl _ => some "bool"
  | .int _ => some "int"
  | .str _ => some "str"
  | .tup _ => some "tuple"
  | .lst _ => some "list"
  | .dic _ _ => some "dict"
  | _ => none
def isiB (t : String) : String → Option Bool
  | "int" => some (t == "int" || t == "bool")
  | "bool" => some (t == "bool")
  | "str" => some (t == "str")
  | "tuple" => some (t == "tuple")
  | "list" => some (t == "list")
  | _ => none
def isiD : List D → Option D
  | [d, .ty n] => (tyD d).bind fun t => (isiB t n).map .bl
  | _ => none
theorem tyx_rep {d : D} {v : V} {t : String} (r : Rep K p B H v d) (h : tyD d = some t) : TyX K H v (.type t) := by
  cases r with
  | non => cases h; exact .base .non
  | bl b => cases h; exact .base (.bl b)
  | int i => cases h; exact .base (.int i)
  | str x => cases h; exact .base (.str x)
  | ty n => cases h
  | tup hs q =>
    cases h
    rcases hs with (e | ⟨o, e⟩) | ⟨o, its, n, e, c, _⟩
    · exact .base (.tup e)
    · exact .fTuple e
    · exact .kTuple e c
  | lst e nb q => cases h; exact .base (.lst e)
  | dic e nb nd q => cases h; exact .base (.dK e)
  | rng e nb => cases h
  | pool => cases h
theorem isi_kit {t n : String} {d : D} {b : Bool} (ht : tyD d = some t) (h : isiB t n = some b) : PySem.W.kitOne K (.type t) (.type n) = some b := by
  have tt : t = "NoneType" ∨ t = "bool" ∨ t = "int" ∨ t = "str" ∨ t = "tuple" ∨ t = "list" ∨ t = "dict" := by
    cases d <;> simp only [tyD] at ht <;> first
      | cases ht; done
      | (cases ht; simp)
  unfold isiB at h
  split at h
  · cases h
    rcases tt with rfl | rfl | rfl | rfl | rfl | rfl | rfl <;> exact kit_ty (by decide +kernel)
  · cases h
    rcases tt with rfl | rfl | rfl | rfl | rfl | rfl | rfl <;> exact kit_ty (by decide +kernel)
  · cases h
    rcases tt with rfl | rfl | rfl | rfl | rfl | rfl | rfl <;> exact kit_ty (by decide +kernel)
  · cases h
    rcases tt with rfl | rfl | rfl | rfl | rfl | rfl | rfl <;> exact kit_ty (by decide +kernel)
  · cases h
    rcases tt with rfl | rfl | rfl | rfl | rfl | rfl | rfl <;> exact kit_ty (by decide +kernel)
  · cases h
theorem vra_isi : VRA K p (rIsi K) isiD := fun B H xs ds d Q hm r e k => by
  unfold isiD at e
  split at e
  · rename_i d0 n
    obtain ⟨v, w, rfl, r1, r2⟩ := r.two_inv
    obtain ⟨t, et, e⟩ := Option.bind_eq_some_iff.mp e
    obtain ⟨b, eb, rfl⟩ := Option.map_eq_some_iff.mp e
    rw [r2.isTy]
    exact ⟨_, _, _, _, b, rfl, .ty n, tyx_rep r1 et, isi_kit et eb, k _ H (Same.refl H) (.bl _)⟩
  · cases e
def tupOf : List D → Option D
  | [.lst ds] => some (.tup ds)
  | [.tup ds] => some (.tup ds)
  | _ => none
theorem vra_tup : VRA K p (fun xs H Q => ∃ p ys, xs = [.ref p] ∧ ((SqL K H p ys ∧ ∀ l, H l = none → Q (.ref l) (upd H l (.tup ys))) ∨ (SqT K H p ys ∧ Q (.ref p) H))) tupOf := fun B H xs ds d Q hm r e k => by
  unfold tupOf at e
  split at e
  · obtain ⟨v, rfl, r'⟩ := r.one_inv
    cases e
    cases r' with
    | lst h nb q => exact ⟨_, _, rfl, .inl ⟨.inl (.inl h), fun a ha => k _ _ (same_new ha) (q.tup ha)⟩⟩
  · obtain ⟨v, rfl, r'⟩ := r.one_inv
    cases e
    cases r' with
    | tup h q => exact ⟨_, _, rfl, .inr ⟨h, k _ H (Same.refl H) (.tup h q)⟩⟩
  · cases e
def intsD : List D → Option (List Int)
  | [] => some []
  | .int i :: ds => (intsD ds).map fun is => i :: is
  | _ :: _ => none
theorem ints_rep : ∀ {ds : List D} {vs : List V} {is : List Int}, Reps K p B H vs ds → intsD ds = some is → vs = is.map V.int
  | [], _, _, r, e => by cases r; cases e; rfl
  | d :: ds, _, is, r, e => by
    cases r with
    | cons r1 r2 =>
      cases d <;> simp only [intsD] at e <;> first
        | cases e; done
        | skip
      obtain ⟨js, ej, rfl⟩ := Option.map_eq_some_iff.mp e
      rw [r1.isInt, ints_rep r2 ej]
      rfl
def maxL : List Int → Option Int
  | [] => none
  | i :: is => some (is.foldl max i)
theorem maxL_is {is : List Int} {m m' : Int} (h : maxL is = some m) (h1 : m' ∈ is) (h2 : ∀ y, y ∈ is → y ≤ m') : m' = m := by
  cases is with
  | nil => cases h
  | cons i is =>
    cases h
    have key : ∀ (l : List Int) (a : Int), a ≤ l.foldl max a ∧ (∀ y ∈ l, y ≤ l.foldl max a) ∧ (l.foldl max a = a ∨ l.foldl max a ∈ l) := by
      intro l
      induction l with
      | nil => intro a; exact ⟨Int.le_refl a, (fun _ h => nomatch h), .inl rfl⟩
      | cons b l ih =>
        intro a
        obtain ⟨q1, q2, q3⟩ := ih (max a b)
        have ha : a ≤ max a b := Int.le_max_left a b
        have hb : b ≤ max a b := Int.le_max_right a b
        refine ⟨Int.le_trans ha q1, fun y hy => ?_, ?_⟩
        · rcases List.mem_cons.mp hy with rfl | hy
          · exact Int.le_trans hb q1
          · exact q2 y hy
        · rcases q3 with q3 | q3
          · by_cases hab : a ≤ b
            · right
              show List.foldl max (max a b) l ∈ _
              rw [q3, Int.max_eq_right hab]
              exact List.mem_cons_self
            · left
              show List.foldl max (max a b) l = a
              rw [q3, Int.max_eq_left (by omega)]
          · exact .inr (List.mem_cons_of_mem _ q3)
    obtain ⟨q1, q2, q3⟩ := key is i
    have hle : is.foldl max i ≤ m' := by
      rcases q3 with q3 | q3
      · rw [q3]
        exact h2 i List.mem_cons_self
      · exact h2 _ (List.mem_cons_of_mem _ q3)
    have hge : m' ≤ is.foldl max i := by
      rcases List.mem_cons.mp h1 with rfl | h1
      · exact q1
      · exact q2 _ h1
    omega
def maxD : List D → Option D
  | [.int i, .int j] => some (.int (if j > i then j else i))
  | [.lst ds] => ((intsD ds).bind maxL).map .int
  | _ => none
def rMaxX (K : PySem.W.Frag) : List V → Hp → VK → Prop := fun xs H Q => (∃ i j, xs = [.int i, .int j] ∧ Q (.int (if j > i then j else i)) H) ∨ rMax K xs H Q
theorem vra_max : VRA K p (rMaxX K) maxD := fun B H xs ds d Q hm r e k => by
  unfold maxD at e
  split at e
  · obtain ⟨v, w, rfl, r1, r2⟩ := r.two_inv
    cases e
    rw [r1.isInt, r2.isInt]
    exact .inl ⟨_, _, rfl, k _ H (Same.refl H) (.int _)⟩
  · obtain ⟨v, rfl, r'⟩ := r.one_inv
    obtain ⟨m, em, rfl⟩ := Option.map_eq_some_iff.mp e
    obtain ⟨is, ei, em⟩ := Option.bind_eq_some_iff.mp em
    cases r' with
    | lst h nb q =>
      have ev := ints_rep q ei
      rw [ev] at h
      refine .inr ⟨_, is, rfl, .inl (.inl h), ?_, fun m' h1 h2 => ?_⟩
      · cases is with
        | nil => cases em
        | cons _ _ => simp
      · rw [maxL_is em h1 h2]
        exact k _ H (Same.refl H) (.int _)
  · cases e
end
/-! ### slices -/
def cutD {α : Type} (xs : List α) (lo hi : Option Int) : List α := (xs.drop (HT.sIx xs.length 0 lo)).take (HT.sIx xs.length xs.length hi - HT.sIx xs.length 0 lo)
def optI : Option D → Option (Option Int)
  | none => some none
  | some (.int i) => some (some i)
  | _ => none
abbrev OM := RC → En → List D → Option (Option Int × List D)
def oNone : OM := fun _ _ S => some (none, S)
def oSome (f : XM) : OM := fun R env S => (f R env S).bind fun x => match x.1 with
  | .int i => some (some i, x.2)
  | _ => none
def sliD (d : D) (lo hi : Option Int) : Option D := match d with
  | .tup ds => some (.tup (cutD ds lo hi))
  | .lst ds => some (.lst (cutD ds lo hi))
  | _ => none
def xSli (f : XM) (lo hi : OM) : XM := fun R env S => (f R env S).bind fun x => (lo R env x.2).bind fun l => (hi R env l.2).bind fun h => (sliD x.1 l.1 h.1).map fun d => (d, h.2)
section
variable {X : Cx} {p : Addr} {e a b : Expr} {pos : Pos}
def tOI (K : PySem.W.Frag) (p : Addr) (f : En → List D → Option (Option Int × List D)) : TO := fun σ H Q => ∃ env S B0 oa, FI K p B0 oa env σ H S ∧ ∃ r, f env S = some r ∧
  ∀ H', FI K p B0 oa env σ H' r.2 → Keep p H H' → Q r.1 H'
theorem _root_.L2.PO.imp {X : Cx} {e : Option Expr} {t t' : TO} (h : PO X e t) (f : ∀ σ H Q, t' σ H Q → t σ H Q) : PO X e t' := ⟨fun pins s σ H Q I q => h.run pins s σ H Q I (f σ H Q q)⟩
theorem io_none {R : RC} : PO X none (tOI X.K p (oNone R)) := po_none.imp fun σ H Q q => by
  obtain ⟨env, S, B0, oa, f0, w, e1, k⟩ := q
  cases e1
  exact k H f0 (Keep.refl p H)
theorem io_some {f : XM} {R : RC} (h : PE X e (tI X.K p (f R))) : PO X (some e) (tOI X.K p (oSome f R)) := (po_some h).imp fun σ H Q q => by
  obtain ⟨env, S, B0, oa, f0, w, e1, k⟩ := q
  unfold oSome at e1
  obtain ⟨x, ex, e1⟩ := Option.bind_eq_some_iff.mp e1
  refine ⟨env, S, B0, oa, f0, x, ex, fun v H1 f1 k1 r1 => ?_⟩
  split at e1
  · rename_i i hi
    rw [hi] at r1
    cases e1
    exact ⟨i, r1.isInt, k H1 f1 k1⟩
  · cases e1
theorem Reps.cut {K : PySem.W.Frag} {B : Addr → Prop} {H : Hp} {vs : List V} {ds : List D} (r : Reps K p B H vs ds) (lo hi : Option Int) : Reps K p B H (cutV vs lo hi) (cutD ds lo hi) := by
  unfold cutV cutD
  rw [r.length]
  exact (r.drop _).take _
theorem take_all {α : Type} {xs : List α} {lo hi : Option Int} (h : HT.sIx xs.length 0 lo = 0 ∧ HT.sIx xs.length xs.length hi = xs.length) : cutD xs lo hi = xs := by
  unfold cutD
  rw [h.1, h.2, List.drop_zero, Nat.sub_zero]
  exact List.take_length
theorem ie_sli {f : XM} {lo hi : OM} {R : RC} {l u : Option Expr} {p2 : Pos} (h : PE X e (tI X.K p (f R))) (hl : PO X l (tOI X.K p (lo R))) (hu : PO X u (tOI X.K p (hi R))) : PE X (.Subscript e (.Slice l u none p2) pos) (tI X.K p (xSli f lo hi R)) := (pe_slice (sl_list.or sl_tupA) h hl hu).imp fun σ H Q q => by
  obtain ⟨env, S, B0, oa, f0, w, e1, k⟩ := q
  unfold xSli at e1
  obtain ⟨x, ex, e1⟩ := Option.bind_eq_some_iff.mp e1
  obtain ⟨y, ey, e1⟩ := Option.bind_eq_some_iff.mp e1
  obtain ⟨z, ez, e1⟩ := Option.bind_eq_some_iff.mp e1
  obtain ⟨d, ed, e1⟩ := Option.map_eq_some_iff.mp e1
  subst e1
  refine ⟨env, S, B0, oa, f0, x, ex, fun v H1 f1 k1 r1 => ⟨env, _, B0, oa, f1, y, ey, fun H2 f2 k2 => ⟨env, _, B0, oa, f2, z, ez, fun H3 f3 k3 => ?_⟩⟩⟩
  have k23 := k2.trans k3
  have k13 := k1.trans k23
  have r3 := r1.keep f1 k23
  generalize x.1 = dx at r3 ed
  cases r3 with
  | tup hs q =>
    cases ed
    refine .inr ⟨_, _, rfl, hs, fun hw => ?_, fun _ a ha => ?_⟩
    · rw [q.length] at hw
      refine k _ H3 f3 k13 ?_
      rw [take_all hw]
      exact .tup hs q
    · exact k _ _ (f3.same (same_new ha)) (k13.trans (Keep.of (same_new ha))) ((q.cut _ _).tup ha)
  | lst hs nb q =>
    cases ed
    refine .inl ⟨_, _, rfl, .inl (.inl hs), fun a ha => ?_⟩
    exact k _ _ (f3.same (same_new ha)) (k13.trans (Keep.of (same_new ha))) ((q.cut _ _).lst f3.mut ha)
  | _ => cases ed
end
end Ip

set_option maxHeartbeats 1000000
/-! IpF: the pool; several names at once; own lists written. -/
namespace Ip
open PySem L2

/-! ### the pool -/
/-- xs[i], the pool's items too -/
def xIx (f g : XM) : XM := fun R env S => (f R env S).bind fun x => (g R env x.2).bind fun y => match x.1, y.1 with
  | .pool, .int i => (atI y.2 i).map fun d => (d, y.2)
  | d, e => (ixD d e).map fun r => (r, y.2)
section
variable {X : Cx} {p : Addr} {e a b c : Expr} {pos : Pos}
theorem ie_xix {f g : XM} {R : RC} (ha : PE X a (tI X.K p (f R))) (hb : PE X b (tI X.K p (g R))) (hm : PlainIx b) : PE X (.Subscript a b pos) (tI X.K p (xIx f g R)) := (pe_ix ix_seq ha hb hm).imp fun σ H Q q => by
  obtain ⟨env, S, B0, oa, f0, w, e1, k⟩ := q
  unfold xIx at e1
  obtain ⟨x, ex, e1⟩ := Option.bind_eq_some_iff.mp e1
  obtain ⟨y, ey, e1⟩ := Option.bind_eq_some_iff.mp e1
  refine ⟨env, S, B0, oa, f0, x, ex, fun v H1 f1 k1 r1 => ⟨env, _, B0, oa, f1, y, ey, fun u H2 f2 k2 r2 => ?_⟩⟩
  have r3 := r1.keep f1 k2
  split at e1
  · rename_i i h1 h2
    rw [h1] at r3
    rw [h2] at r2
    obtain ⟨d, ed, rfl⟩ := Option.map_eq_some_iff.mp e1
    obtain ⟨vs, ep, rp⟩ := f2.pool
    obtain ⟨z, ez, rz⟩ := rp.atI ed
    cases r3
    exact .inl ⟨_, _, i, z, rfl, r2.isInt, .inl (.inl ep), ez, k z H2 f2 (k1.trans k2) rz⟩
  · obtain ⟨d, ed, rfl⟩ := Option.map_eq_some_iff.mp e1
    exact vr_ix _ H2 v u _ _ d Q f2.mut r3 r2 ed fun z H3 s3 r5 => k z H3 (f2.same s3) ((k1.trans k2).trans (Keep.of s3)) r5
def sPool (fo fi fv : XM) : SM := fun R env S => (fv R env S).bind fun x => (fo R env x.2).bind fun y => (fi R env y.2).bind fun z => match y.1, z.1 with
  | .pool, .int i => (ixN z.2.length i).map fun j => (.nx, env, z.2.set j x.1)
  | _, _ => none
theorem is_pool {fo fi fv : XM} {R : RC} {o i e : Expr} {pos' : Pos} (ho : PE X o (tI X.K p (fo R))) (hi : PE X i (tI X.K p (fi R))) (hv : PE X e (tI X.K p (fv R))) (hs : swapsWithSole [.Subscript o i pos'] e pos.line X.env = pure false) (hw : swappedStores [.Subscript o i pos'] e X.env = pure none)
    (h1 : (assignEach [.Subscript o i pos'] X.env).map (·.2) = [assign (.Subscript o i pos') X.env])
    (h2 : ∀ v, assign (.Subscript o i pos') X.env v = (do
      let ov ← holding [v] (eval o X.env)
      let iv ← holding [v, ov] (eval i X.env)
      standAt pos'
      holding [v, ov, iv] (setItem ov iv v)
      release [v, ov, iv] [])) : PS X (.Assign [.Subscript o i pos'] e pos) (tIS X.K p (sPool fo fi fv R)) := (ps_asg hv (pg_sub ho hi set_list h2) hs hw h1).imp fun Dn σ H q => by
  obtain ⟨env, S, B0, oa, f0, w, e1, k⟩ := q
  unfold sPool at e1
  obtain ⟨x, ex, e1⟩ := Option.bind_eq_some_iff.mp e1
  obtain ⟨y, ey, e1⟩ := Option.bind_eq_some_iff.mp e1
  obtain ⟨z, ez, e1⟩ := Option.bind_eq_some_iff.mp e1
  refine ⟨env, S, B0, oa, f0, x, ex, fun v H1 f1 q1 r1 => ⟨env, _, B0, oa, f1, y, ey, fun u H2 f2 q2 r2 => ⟨env, _, B0, oa, f2, z, ez, fun t H3 f3 q3 r3 => ?_⟩⟩⟩
  have rv := (r1.keep f1 q2).keep f2 q3
  have ru := r2.keep f2 q3
  split at e1
  · rename_i i h1 h2
    rw [h1] at ru
    rw [h2] at r3
    obtain ⟨j, ej, e1⟩ := Option.map_eq_some_iff.mp e1
    subst e1
    obtain ⟨vs, ep, rp⟩ := f3.pool
    cases ru
    refine ⟨_, vs, i, j, rfl, r3.isInt, ep, by rw [rp.length]; exact ej, ?_⟩
    have kp : Keep p H3 (upd H3 p (.lst (vs.set j v))) := fun b o nb h => by
      rw [upd_ne nb]
      exact h
    have ps : PoolOk X.K p (Bf B0 p oa) (upd H3 p (.lst (vs.set j v))) (z.2.set j x.1) := ⟨_, upd_same, ((rp.set rv j).keep f3 kp)⟩
    have f4 := f3.keep kp ps
    exact k σ _ oa f4 ((((q1.trans q2).trans q3).trans kp).mv f4.pool.some)
  · cases e1

/-! ### several names at once -/
/-- what was evaluated earlier is put later -/
theorem VOk.later {K : PySem.W.Frag} {B0 : Addr → Prop} {oa : Oa} {env : En} {σ : L2.St} {H H1 : Hp} {S1 : List D} {x : SV} {v : V} (h : VOk K p B0 oa env σ H H1 S1 x v) :
    ∃ B1, FI K p B1 oa env σ H1 S1 ∧ Keep p H H1 ∧ ∀ {oa' : Oa} {env' : En} {σ' : L2.St} {H2 : Hp} {S2 : List D} {i : Nat}, FI K p B1 oa' env' σ' H2 S2 → Keep p H1 H2 → Mv p oa oa' H1 H2 → i < env'.length →
      ∃ oa2, FI K p B0 oa2 (env'.set i (some x)) (σ'.set i (some v)) H2 S2 ∧ Mv p oa oa2 H H2 := by
  have bfm : ∀ {B : Addr → Prop} {oa oa' : Oa} {H1 H2 : Hp}, Mv p oa oa' H1 H2 → ∀ b, Bf B p oa' b → Bf B p oa b ∨ H1 b = none := fun m b h => by
    rcases h with h | h | h
    · exact .inl (.inl h)
    · exact .inl (.inr (.inl h))
    · rcases m.nw b h with z | z
      · exact .inl (.inr (.inr z))
      · exact .inr z
  cases h with
  | sh f k r =>
    refine ⟨B0, f, k, fun {oa' env' σ' H2 S2 i} f2 k2 m2 hi => ?_⟩
    have r2 := r.move (fun b o nb q => k2 b o (fun z => nb (.inr (.inl z))) q) (bfm m2) f.mut
    exact ⟨_, f2.set i r2, ((k.mv f.pool.some).trans m2).trans (Mv.drop i)⟩
  | @own a _ f k ha q nb np no nx =>
    refine ⟨_, f, k, fun {oa' env' σ' H2 S2 i} f2 k2 m2 hi => ?_⟩
    have no2 : ∀ j, oa' j ≠ some a := fun j z => (f2.dis j a z).1 (.inr rfl)
    have q2 : OwnAt K p (Bf (fun b => B0 b ∨ b = a) p oa') H2 a x := by
      cases q with
      | own e r => exact .own (k2 a _ np e) (r.move (fun b o nb q => k2 b o (fun z => nb (.inr (.inl z))) q) (bfm m2) f.mut)
      | ownD e n r => exact .ownD (k2 a _ np e) n (r.move (fun b o nb q => k2 b o (fun z => nb (.inr (.inl z))) q) (bfm m2) f.mut)
    refine ⟨_, f2.setOwn i hi np nb no2 nx q2, ?_⟩
    have m := (k.mv f.pool.some).trans m2
    refine ⟨m.kp, m.pk, fun b h => ?_⟩
    rcases own_put h with z | z
    · exact m.nw b z
    · exact .inr (z ▸ ha)
def sPar (i j : Nat) (f g : RM) : SM := fun R env S => (f R env S).bind fun x => (g R env x.2).bind fun y => if i < env.length ∧ j < env.length ∧ i ≠ j then some (.nx, (env.set i (some x.1)).set j (some y.1), y.2) else none
theorem is_par {i j : Nat} {x y : Str} {px py pt : Pos} {kt k2 pt2} {f g : RM} {R : RC} (hc : X.calm = true) (hN : X.N.Nodup) (hi : X.N[i]? = some x) (hj : X.N[j]? = some y) (hij : i ≠ j)
    (hx : X.env.scope.names.lookup x = some .local) (hy : X.env.scope.names.lookup y = some .local) (ha : PE X a (tVI X.K p (f R))) (hb : PE X b (tVI X.K p (g R)))
    (hsa : starEach [a, b] X.env = (false, eval a X.env) :: starEach [b] X.env) (hsb : starEach [b] X.env = (false, eval b X.env) :: starEach [] X.env)
    (hw : swappedStores [.Tuple [.Name x px, .Name y py] kt pt] (.Tuple [a, b] k2 pt2) X.env = pure (some [x, y]))
    (hs : swapsWithSole [.Tuple [.Name x px, .Name y py] kt pt] (.Tuple [a, b] k2 pt2) pos.line X.env = pure false) :
    PS X (.Assign [.Tuple [.Name x px, .Name y py] kt pt] (.Tuple [a, b] k2 pt2) pos) (tIS X.K p (sPar i j f g R)) := (ps_par hc hN hi hj hij hx hy (pa_cons ha (pa_cons hb pa_nil hsb) hsa) hw hs).imp fun Dn σ H q => by
  obtain ⟨env, S, B0, oa, f0, w, e1, k⟩ := q
  unfold sPar at e1
  obtain ⟨x1, ex, e1⟩ := Option.bind_eq_some_iff.mp e1
  obtain ⟨y1, ey, e1⟩ := Option.bind_eq_some_iff.mp e1
  split at e1
  · rename_i hl
    cases e1
    refine ⟨env, S, B0, oa, f0, x1, ex, fun v H1 h1 => ?_⟩
    obtain ⟨B1, f1, k1, put1⟩ := h1.later
    refine ⟨env, _, B1, oa, f1, y1, ey, fun u H2 h2 => ⟨v, u, rfl, ?_⟩⟩
    obtain ⟨_, _, k2, _⟩ := h2.later
    obtain ⟨oa2, f2, m2⟩ := h2.put hl.2.1
    obtain ⟨oa3, f3, m3⟩ := put1 f2 k2 m2 (by rw [List.length_set]; exact hl.1)
    rw [List.set_comm _ _ hij.symm, List.set_comm _ _ hij.symm] at f3
    exact k _ H2 oa3 f3 m3
  · cases e1
/-- a, b, c = x, y, z with plain local names: stored from the right -/
def tPar3 (i j l : Nat) (ta : TA) : TS := fun D σ H => ta σ H fun vs H1 => ∃ v w u, vs = [v, w, u] ∧ D.nx (((σ.set i (some v)).set j (some w)).set l (some u)) H1
open PySem.Spec PyProof.Rows in
theorem ps_par3 {i j l : Nat} {x y z : Str} {a b c : Expr} {ta : TA} {px py pz pt : Pos} {kt k2 pt2} (hc : X.calm = true) (hN : X.N.Nodup) (hi : X.N[i]? = some x) (hj : X.N[j]? = some y) (hl : X.N[l]? = some z) (hij : i ≠ j) (hil : i ≠ l) (hjl : j ≠ l)
    (hx : X.env.scope.names.lookup x = some .local) (hy : X.env.scope.names.lookup y = some .local) (hz : X.env.scope.names.lookup z = some .local) (ha : PA X [a, b, c] ta)
    (hw : swappedStores [.Tuple [.Name x px, .Name y py, .Name z pz] kt pt] (.Tuple [a, b, c] k2 pt2) X.env = pure (some [x, y, z]))
    (hs : swapsWithSole [.Tuple [.Name x px, .Name y py, .Name z pz] kt pt] (.Tuple [a, b, c] k2 pt2) pos.line X.env = pure false) :
    PS X (.Assign [.Tuple [.Name x px, .Name y py, .Name z pz] kt pt] (.Tuple [a, b, c] k2 pt2) pos) (tPar3 i j l ta) := by
  refine ⟨fun pins s σ H D I h => ?_⟩
  rw [exec_Assign_arm]
  refine wpAny_bind (wpAny_standAt ?_)
  rw [hs]
  refine wpAny_bind (wpAny_pure ?_)
  rw [if_neg (by decide)]
  refine wpAny_bind (Tuple_ (thn (ha.run _ pins s σ H _ I h) fun us s1 ⟨vs, H1, I1, r1, q1⟩ => ?_))
  obtain ⟨v, w, u, e1, q1⟩ := q1
  subst e1
  obtain ⟨u1, u2, u3, rfl, rv, rw', ru⟩ : ∃ u1 u2 u3, us = [u1, u2, u3] ∧ RelV v u1 ∧ RelV w u2 ∧ RelV u u3 := by
    cases r1 with
    | cons p q =>
      cases q with
      | cons p' q' =>
        cases q' with
        | cons p'' q'' =>
          cases q''
          exact ⟨_, _, _, rfl, p, p', p''⟩
  refine wpAny_newObj_type ?_ (by show 3 ≤ sizeLine; decide)
  have I2 : Inv X pins σ H1 { s1 with heap := s1.heap.push { cls := .type "tuple", data := .seq [u1, u2, u3].toArray } } := I1.kept (t' := s1.toks) fun b o e => Heap.get?_push_of_some _ e
  rw [hw]
  refine wpAny_bind (wpAny_pure ?_)
  show wpAny (model X.prog X.w) X.A (do rule "assign.swapped-stores"; let items ← unpackItems (.ref s1.heap.objs.size) 3 none; assignInOrder [fun v => bindName X.env z v, fun v => bindName X.env y v, fun v => bindName X.env x v] items.reverse; pure Flow.next) _ _ _
  refine wpAny_bind (wpAny_rule (wpAny_bind (unpackItems_tuple (items := #[u1, u2, u3]) (I.ok.hd hc) (IsTup.new s1.heap _) fun h' hx' => ?_)))
  have I3 := I2.kept (h' := h') (t' := s1.toks) fun b o e => hx' b o (Nat.ne_of_lt (Heap.lt_size e)) e
  show wpAny _ _ (assignInOrder [fun v => bindName X.env z v, fun v => bindName X.env y v, fun v => bindName X.env x v] [u3, u2, u1] >>= fun _ => pure Flow.next) _ _ _
  refine wpAny_bind (assignInOrder_cons (wpAny_bindName (store_ok I3 hN hl (.inl hz) ru (fun s2 I4 => ?_) (.inr hz))))
  refine assignInOrder_cons (wpAny_bindName (store_ok I4 hN hj (.inl hy) rw' (fun s3 I5 => ?_) (.inr hy)))
  refine assignInOrder_cons (wpAny_bindName (store_ok I5 hN hi (.inl hx) rv (fun s4 I6 => assignInOrder_nil (wpAny_pure ?_)) (.inr hx)))
  rw [List.set_comm _ _ hjl.symm, List.set_comm _ _ hil.symm, List.set_comm _ _ hij.symm] at I6
  exact ⟨_, H1, I6, q1⟩
end
end Ip

set_option maxHeartbeats 2000000
/-! IpG: from the text to its meaning; that the meaning is the text's. -/
namespace Ip
open PySem L2

structure Ctx where
  N : List Str
  sc : Scope
  bs : Option Scope
  fns : List (Str × Nat)
  bls : List Str
  cs : List (Str × D)

def findIx : List Str → Str → Option Nat
  | [], _ => none
  | y :: ys, x => if x = y then some 0 else (findIx ys x).map (· + 1)
theorem findIx_get : ∀ {N : List Str} {x : Str} {i : Nat}, findIx N x = some i → N[i]? = some x
  | [], _, _, h => by cases h
  | y :: ys, x, i, h => by
    unfold findIx at h
    split at h
    · rename_i e
      cases h
      rw [e]
      rfl
    · obtain ⟨j, ej, rfl⟩ := Option.map_eq_some_iff.mp h
      have q := findIx_get ej
      simpa using q
def visB (sc : Scope) (x : Str) : Bool := match sc.names.lookup x with
  | some .local => true
  | some .cell => true
  | some .free => true
  | _ => false
theorem visB_ok {sc : Scope} {x : Str} (h : visB sc x = true) : Vis sc x := by
  unfold visB at h
  unfold Vis
  split at h
  · exact .inl (by assumption)
  · exact .inr (.inl (by assumption))
  · exact .inr (.inr (by assumption))
  · cases h
def locB (C : Ctx) (x : Str) : Bool := match C.sc.names.lookup x with
  | some .local => true
  | some .cell => match C.bs with
    | none => true
    | some s => decide (s.names.lookup x = some .cell)
  | _ => false
def glB (sc : Scope) (x : Str) : Bool := decide (sc.names.lookup x = some .globalImplicit)
def plainN (x : Str) : Bool := !(x == ("__debug__" : Str)) && !(x == ("__classdict__" : Str))
def notStar : Expr → Bool
  | .Starred _ _ => false
  | _ => true
def notSlice : Expr → Bool
  | .Slice _ _ _ _ => false
  | _ => true
def notSet : Expr → Bool
  | .Set _ _ _ => false
  | _ => true
def notComp : Expr → Bool
  | .ListComp _ _ _ _ => false
  | .SetComp _ _ _ _ => false
  | .DictComp _ _ _ _ _ => false
  | _ => true
theorem star_plain {e : Expr} {es : List Expr} {env : Env} (h : notStar e = true) : starEach (e :: es) env = (false, eval e env) :: starEach es env := by cases e <;> first | rfl | cases h
theorem star_any {env : Env} {pos : Pos} : ∀ {es : List Expr}, es.all notStar = true → (backTo pos (starEach es env)).any (·.1) = false
  | [], _ => rfl
  | e :: es, h => by
    rw [List.all_cons, Bool.and_eq_true] at h
    rw [star_plain h.1]
    have ih := star_any (env := env) (pos := pos) h.2
    simp only [backTo, List.map_cons, List.any_cons, Bool.false_or] at ih ⊢
    exact ih
theorem plainIx_of {e : Expr} (h : notSlice e = true) : PlainIx e := by cases e <;> first | exact fun _ _ => rfl | cases h
theorem folded_of {e : Expr} {env : Env} (h : notSet e = true) : ∀ x, foldedSetIterable e env x = pure x := by cases e <;> first | exact fun _ => rfl | cases h
theorem sw_of {e : Expr} {t : Option Expr} {l : Nat} {env : Env} (h : notComp e = true) : swapsWith e t l env = pure false := by cases e <;> first | rfl | cases h
def notName : Expr → Bool
  | .Name _ _ => false
  | _ => true
theorem sw_tgt {e t : Expr} {l : Nat} {env : Env} (h : notName t = true) : swapsWith e (some t) l env = pure false := by
  cases t <;> first | cases h; done | (cases e <;> rfl)

/-- the context stands for X -/
structure Mt (p : Addr) (C : Ctx) (X : Cx) (R : RC) : Prop where
  N : X.N = C.N
  nd : C.N.Nodup
  sc : X.env.scope = C.sc
  fn : ∀ x, (match C.bs with | none => True | some s => s.names.lookup x = some .cell) → X.fn x = true
  calm : X.calm = true
  units : X.A.units + 64 < cLine
  xe : X.xe = fun _ _ => False
  fns : ∀ x m, C.fns.lookup x = some m → ∃ k f fd ps, FnOk X.prog X.w X.K X.mg X.base CX0 k f fd ps (spI X.K p m (R x)) ∧ Room k X.A ∧ X.mg x = some (.ref f) ∧ PySem.W.keepIn X.K (.ref f) = true ∧ Binds X.K fd ps []
  bls : ∀ x ∈ C.bls, X.mg x = none
  cs : ∀ x d, C.cs.lookup x = some d → ∃ u v, X.mg x = some u ∧ RelV v u ∧ ∀ B H, Rep X.K p B H v d
section
variable {p : Addr} {C : Ctx} {X : Cx} {R : RC}
theorem Mt.vis (m : Mt p C X R) {x : Str} (h : visB C.sc x = true) : Vis X.env.scope x := by
  rw [m.sc]
  exact visB_ok h
theorem Mt.gl (m : Mt p C X R) {x : Str} (h : glB C.sc x = true) : Gl X x := by
  have h := of_decide_eq_true h
  show X.env.scope.names.lookup x = _
  rw [m.sc]
  exact h
theorem Mt.ix (m : Mt p C X R) {x : Str} {i : Nat} (h : findIx C.N x = some i) : X.N[i]? = some x := by
  rw [m.N]
  exact findIx_get h
theorem Mt.loc (m : Mt p C X R) {x : Str} (h : locB C x = true) : L2.Loc X.env.scope x ∧ (X.fn x = true ∨ X.env.scope.names.lookup x = some .local) := by
  unfold locB at h
  unfold L2.Loc
  rw [m.sc]
  split at h
  · rename_i e
    exact ⟨.inl e, .inr e⟩
  · rename_i e
    refine ⟨.inr e, .inl (m.fn x ?_)⟩
    split at h
    · trivial
    · exact of_decide_eq_true h
  · cases h
theorem Mt.hN (m : Mt p C X R) : X.N.Nodup := by
  rw [m.N]
  exact m.nd
/-- the block of a comprehension -/
theorem Mt.blk (m : Mt p C X R) (s : Shared) (H : Hp) (scope : Scope) (cl : List (Str × Addr)) (L : Addr) (fp : List Addr) :
    Mt p { C with sc := relS scope C.sc, bs := some scope } (X.blk s H scope (compEnvC scope cl L X.env) fp) R where
  N := m.N
  nd := m.nd
  sc := by
    have e : (compEnvC scope cl L X.env).scope = relS scope X.env.scope := rfl
    rw [m.sc] at e
    exact e
  fn := fun x h => by
    show (scope.names.lookup x == some .cell) = true
    have h : scope.names.lookup x = some .cell := h
    rw [h]
    rfl
  calm := m.calm
  units := m.units
  xe := rfl
  fns := m.fns
  bls := m.bls
  cs := m.cs
end

/-! ### operators -/
def binD : Operator → Option (D → D → Option D)
  | .Add => some addD
  | .Sub => some subD
  | .Mult => some mulD
  | .Mod => some modD
  | .FloorDiv => some divD
  | _ => none
def cmpD : CmpOp → Option (D → D → Option D)
  | .Eq => some eqD
  | .NotEq => some neD
  | .Lt => some ltD
  | .LtE => some leD
  | .Gt => some gtD
  | .GtE => some geD
  | .In => some inD
  | .NotIn => some ninD
  | .Is => some isND
  | .IsNot => some isNND
section
variable {p : Addr} {X : Cx}
theorem bin_ok {op : Operator} {g : D → D → Option D} (h : binD op = some g) : ∃ r, OpR X (binaryOp op) r ∧ VR2 X.K p r g := by
  cases op <;> simp only [binD] at h <;> first
    | cases h; done
    | skip
  · cases h; exact ⟨_, op_addX, vr_add⟩
  · cases h; exact ⟨_, op_sub, vr_int0⟩
  · cases h; exact ⟨_, op_mul, vr_int mulI_ok⟩
  · cases h; exact ⟨_, op_modN, vr_int modI_ok⟩
  · cases h; exact ⟨_, op_fdivN, vr_int divI_ok⟩
theorem cmp_ok {op : CmpOp} {g : D → D → Option D} (hu : X.A.units + 64 < cLine) (h : cmpD op = some g) : ∃ r, OpR X (compareOp op) r ∧ VR2 X.K p r g := by
  cases op <;> simp only [cmpD] at h
  · cases h; exact ⟨_, op_eq.or (op_eqD hu), vr_eq⟩
  · cases h; exact ⟨_, op_ne.or (op_neD hu), vr_ne⟩
  · cases h; exact ⟨_, op_lt.or op_lt_str, vr_ord⟩
  · cases h; exact ⟨_, op_le.or op_le_str, vr_ord⟩
  · cases h; exact ⟨_, op_gt.or op_gt_str, vr_ord⟩
  · cases h; exact ⟨_, op_ge.or op_ge_str, vr_ord⟩
  · cases h; exact ⟨_, op_isN, vr_isN⟩
  · cases h; exact ⟨_, op_notN, vr_isNN⟩
  · cases h; exact ⟨_, op_in_seq.or op_in_str, vr_in⟩
  · cases h; exact ⟨_, op_notIn_seq.or op_notin_str, vr_nin⟩
end
/-- built-in functions and classes that are called -/
def bltD (x : Str) : Option (List D → Option D) :=
  if x = ("len" : Str) then some lenD
  else if x = ("int" : Str) then some intOf
  else if x = ("isinstance" : Str) then some isiD
  else if x = ("tuple" : Str) then some tupOf
  else if x = ("max" : Str) then some maxD
  else none
theorem blt_ok {p : Addr} {X : Cx} {x : Str} {g : List D → Option D} (hc : X.calm = true) (h : bltD x = some g) : x ≠ "__name__" ∧
    ((∃ id r, bootBuiltins x = some (.builtin id) ∧ CallR X (.builtin id) r ∧ VRA X.K p r g) ∨ ∃ T r, bootBuiltins x = some (.type T) ∧ CallR X (.type T) r ∧ VRA X.K p r g) := by
  unfold bltD at h
  split at h
  · rename_i e
    subst e
    cases h
    exact ⟨by decide, .inl ⟨_, _, PySem.boot_len, call_len, vra_len⟩⟩
  split at h
  · rename_i e
    subst e
    cases h
    exact ⟨by decide, .inr ⟨_, _, by decide +kernel, call_int1, vra_int⟩⟩
  split at h
  · rename_i e
    subst e
    cases h
    exact ⟨by decide, .inl ⟨_, _, by decide +kernel, call_isi, vra_isi⟩⟩
  split at h
  · rename_i e
    subst e
    cases h
    exact ⟨by decide, .inr ⟨_, _, by decide +kernel, call_tuple_of, vra_tup⟩⟩
  split at h
  · rename_i e
    subst e
    cases h
    exact ⟨by decide, .inl ⟨_, _, by decide +kernel, (call_max2 hc).or (cr_max hc), vra_max⟩⟩
  · cases h
/-- built-in classes as values -/
def tyOf (x : Str) : Option String :=
  if x = ("int" : Str) then some "int"
  else if x = ("str" : Str) then some "str"
  else if x = ("bool" : Str) then some "bool"
  else if x = ("tuple" : Str) then some "tuple"
  else if x = ("list" : Str) then some "list"
  else none
theorem ty_ok {x : Str} {n : String} (h : tyOf x = some n) : x ≠ "__name__" ∧ bootBuiltins x = some (.type n) := by
  unfold tyOf at h
  split at h
  · rename_i e; subst e; cases h; exact ⟨by decide, by decide +kernel⟩
  split at h
  · rename_i e; subst e; cases h; exact ⟨by decide, by decide +kernel⟩
  split at h
  · rename_i e; subst e; cases h; exact ⟨by decide, by decide +kernel⟩
  split at h
  · rename_i e; subst e; cases h; exact ⟨by decide, by decide +kernel⟩
  split at h
  · rename_i e; subst e; cases h; exact ⟨by decide, by decide +kernel⟩
  · cases h

/-! ### targets -/
def tgNames : List Expr → Option (List Str)
  | [] => some []
  | .Name x _ :: es => (tgNames es).map fun xs => x :: xs
  | _ => none
def ixAll (N : List Str) : List Str → Option (List Nat)
  | [] => some []
  | x :: xs => (findIx N x).bind fun i => (ixAll N xs).map fun is => i :: is
def compG (C : Ctx) : Expr → Option Tg
  | .Name x _ => if locB C x then (findIx C.N x).map .name else none
  | .Tuple es _ _ => (tgNames es).bind fun xs => if xs.all (locB C) then (ixAll C.N xs).map .tup else none
  | _ => none
theorem compG_all {p : Addr} {C : Ctx} {X : Cx} {R : RC} (m : Mt p C X R) : ∀ {es : List Expr} {xs : List Str} {is : List Nat}, tgNames es = some xs → xs.all (locB C) = true → ixAll C.N xs = some is → PGs X es (gAll is) ∧ (assignEach es X.env).length = is.length ∧ (assignEach es X.env).findIdx? (·.1) = none
  | [], xs, is, h1, h2, h3 => by
    cases h1
    cases h3
    exact ⟨pgs_nil, rfl, rfl⟩
  | e :: es, xs, is, h1, h2, h3 => by
    cases e <;> simp only [tgNames] at h1 <;> first
      | cases h1; done
      | skip
    obtain ⟨ys, ey, rfl⟩ := Option.map_eq_some_iff.mp h1
    rw [List.all_cons, Bool.and_eq_true] at h2
    simp only [ixAll] at h3
    obtain ⟨i, ei, h3⟩ := Option.bind_eq_some_iff.mp h3
    obtain ⟨js, ej, rfl⟩ := Option.map_eq_some_iff.mp h3
    obtain ⟨q1, q2, q3⟩ := compG_all m ey h2.2 ej
    obtain ⟨l1, l2⟩ := m.loc h2.1
    refine ⟨pgs_cons (pg_name m.hN (m.ix ei) l1 l2) q1, ?_, ?_⟩
    · show (assignEach es X.env).length + 1 = _
      rw [q2]
      rfl
    · show List.findIdx? (·.1) ((false, assign _ X.env) :: assignEach es X.env) = none
      rw [List.findIdx?_cons, q3]
      rfl
theorem compG_ok {p : Addr} {C : Ctx} {X : Cx} {R : RC} (m : Mt p C X R) {tg : Expr} {t : Tg} (h : compG C tg = some t) : ∃ g, PG X tg g ∧ TgOk X.K p t g := by
  cases tg <;> simp only [compG] at h <;> first
    | cases h; done
    | skip
  · split at h
    · rename_i hl
      obtain ⟨i, ei, rfl⟩ := Option.map_eq_some_iff.mp h
      obtain ⟨l1, l2⟩ := m.loc hl
      exact ⟨_, pg_name m.hN (m.ix ei) l1 l2, tg_name⟩
    · cases h
  · obtain ⟨xs, ex, h⟩ := Option.bind_eq_some_iff.mp h
    split at h
    · rename_i hl
      obtain ⟨is, ei, rfl⟩ := Option.map_eq_some_iff.mp h
      obtain ⟨q1, q2, q3⟩ := compG_all m ex hl ei
      exact ⟨_, pg_tup m.calm q1 q2 q3, tg_tup⟩
    · cases h
end Ip

set_option maxHeartbeats 4000000
/-! IpH: expressions compiled. -/
namespace Ip
open PySem L2

def tgOwn (C : Ctx) (scope : Scope) : Expr → Option (List (Str × Nat))
  | .Name x _ => (findIx C.N x).map fun i => [(x, i)]
  | .Tuple es _ _ => (tgNames es).bind fun xs => (ixAll C.N xs).map fun is => xs.zip is
  | _ => none
/-- range(..), the built-in one -/
def rangeOf (C : Ctx) : Expr → Option (List Expr)
  | .Call (.Name x _) es [] _ => if x = ("range" : Str) ∧ x ∈ C.bls ∧ glB C.sc x = true then some es else none
  | _ => none
theorem rangeOf_ok {C : Ctx} {e : Expr} {es : List Expr} (h : rangeOf C e = some es) : ∃ q pos, e = .Call (.Name "range" q) es [] pos ∧ ("range" : Str) ∈ C.bls ∧ glB C.sc ("range" : Str) = true := by
  unfold rangeOf at h
  split at h
  · split at h
    · rename_i hc
      obtain ⟨rfl, h2, h3⟩ := hc
      cases h
      exact ⟨_, _, rfl, h2, h3⟩
    · cases h
  · cases h
mutual
def compE : Nat → Ctx → Expr → Option XM
  | 0, _, _ => none
  | n + 1, C, .Constant (.int i) _ _ => some (xC (.int i))
  | n + 1, C, .Constant (.bool b) _ _ => some (xC (.bl b))
  | n + 1, C, .Constant .none _ _ => some (xC .non)
  | n + 1, C, .Constant (.str x) _ _ => some (xC (.str x))
  | n + 1, C, .Name x _ => if plainN x then
      if visB C.sc x then (findIx C.N x).map xVar
      else if glB C.sc x then match C.cs.lookup x with
        | some d => some (xC d)
        | none => if x ∈ C.bls then (tyOf x).map fun t => xC (.ty t) else none
      else none
    else none
  | n + 1, C, .BinOp a op b _ => (compE n C a).bind fun f => (compE n C b).bind fun g => (binD op).map fun o => xBin o f g
  | n + 1, C, .UnaryOp .Not a _ => (compE n C a).map xNot
  | n + 1, C, .UnaryOp .USub a _ => (compE n C a).map (xUn negD)
  | n + 1, C, .BoolOp .And es _ => compB n C true es
  | n + 1, C, .BoolOp .Or es _ => compB n C false es
  | n + 1, C, .IfExp c a b _ => (compT n C c).bind fun t => (compE n C a).bind fun f => (compE n C b).map fun g => xIf t f g
  | n + 1, C, .Compare a [op] [b] _ => if notSet b then (compE n C a).bind fun f => (compE n C b).bind fun g => (cmpD op).map fun o => xBin o f g else none
  | n + 1, C, .Compare a [op, op'] [b, c] _ => if notSet b && notSet c then (compE n C a).bind fun f => (compE n C b).bind fun g => (compE n C c).bind fun h => (cmpD op).bind fun o => (cmpD op').map fun o' => xChain o o' f g h else none
  | n + 1, C, .Tuple es _ _ => (compA n C es).map xTup
  | n + 1, C, .List es _ => (compA n C es).map fun f => xLst (lDisp f)
  | n + 1, C, .ListComp elt [⟨tg, it, ifs, 0⟩] scope _ => (compC n C elt tg it ifs scope).map xLst
  | n + 1, C, .Subscript v (.Slice lo hi none _) _ => (compE n C v).bind fun f => (compO n C lo).bind fun l => (compO n C hi).map fun h => xSli f l h
  | n + 1, C, .Subscript v i _ => if notSlice i then (compE n C v).bind fun f => (compE n C i).map fun g => xIx f g else none
  | n + 1, C, .Call (.Name x _) [] [] _ => if glB C.sc x && plainN x then match C.fns.lookup x with
      | some 0 => some (xCall x aNil)
      | _ => none
    else none
  | n + 1, C, .Call (.Name x _) (e :: es) [] _ => if glB C.sc x && plainN x && (e :: es).all notStar then (compA n C (e :: es)).bind fun f => match C.fns.lookup x with
      | some m => if m = (e :: es).length then some (xCall x f) else none
      | none => if x ∈ C.bls then (bltD x).map fun g => xApp g f else none
    else none
  | _, _, _ => none
/-- and, or as values -/
def compB : Nat → Ctx → Bool → List Expr → Option XM
  | 0, _, _, _ => none
  | n + 1, C, k, [e] => compE n C e
  | n + 1, C, k, e :: e' :: es => (compE n C e).bind fun f => (compB n C k (e' :: es)).map fun g => if k then xAnd f g else xOr f g
  | _, _, _, _ => none
/-- tests -/
def compT : Nat → Ctx → Expr → Option TM
  | 0, _, _ => none
  | n + 1, C, .UnaryOp .Not a _ => (compT n C a).map mNot
  | n + 1, C, .BoolOp .And es _ => compW n C true es
  | n + 1, C, .BoolOp .Or es _ => compW n C false es
  | n + 1, C, .Compare a [op] [b] _ => if notSet b then (compE n C a).bind fun f => (compE n C b).bind fun g => (cmpD op).map fun o => mBl (xBin o f g) else none
  | n + 1, C, .Compare a [op, op'] [b, c] _ => if notSet b && notSet c then (compE n C a).bind fun f => (compE n C b).bind fun g => (compE n C c).bind fun h => (cmpD op).bind fun o => (cmpD op').map fun o' => mBl (xChain o o' f g h) else none
  | n + 1, C, .Call f es ks pos => (compE n C (.Call f es ks pos)).map mTru
  | n + 1, C, .Name x pos => (compE n C (.Name x pos)).map mTru
  | _, _, _ => none
def compW : Nat → Ctx → Bool → List Expr → Option TM
  | 0, _, _, _ => none
  | n + 1, C, k, [e] => compT n C e
  | n + 1, C, k, e :: e' :: es => (compT n C e).bind fun f => (compW n C k (e' :: es)).map fun g => if k then mAnd f g else mOr f g
  | _, _, _, _ => none
def compA : Nat → Ctx → List Expr → Option AM
  | 0, _, _ => none
  | n + 1, C, [] => some aNil
  | n + 1, C, e :: es => if notStar e then (compE n C e).bind fun f => (compA n C es).map fun g => aCons f g else none
def compO : Nat → Ctx → Option Expr → Option OM
  | 0, _, _ => none
  | n + 1, C, none => some oNone
  | n + 1, C, some e => (compE n C e).map oSome
/-- what is walked -/
def compI : Nat → Ctx → Expr → Option IM
  | 0, _, _ => none
  | n + 1, C, e => match rangeOf C e with
    | some [a] => if notStar a then (compA n C [a]).map (iArg rng1) else none
    | some [a, b] => if notStar a && notStar b then (compA n C [a, b]).map (iArg rng2) else none
    | some _ => none
    | none => if notSet e then (compE n C e).map iOf else none
/-- a comprehension of one clause -/
def compC : Nat → Ctx → Expr → Expr → Expr → List Expr → Scope → Option LM
  | 0, _, _, _, _, _, _ => none
  | n + 1, C, elt, tg, it, ifs, scope => if notSet it then (tgOwn C scope tg).bind fun (own : List (Str × Nat)) => if blkC C.N C.sc scope own then (compI n C it).bind fun i => (compG { C with sc := relS scope C.sc, bs := some scope } tg).bind fun t =>
      (match ifs with
        | [] => some mYes
        | [c] => compT n { C with sc := relS scope C.sc, bs := some scope } c
        | _ => none).bind fun tt => (compE n { C with sc := relS scope C.sc, bs := some scope } elt).map fun f => lComp i t (own.map Prod.snd) tt f
    else none else none
end

structure CompOk (p : Addr) (X : Cx) (R : RC) (elt tg iter : Expr) (ifs : List Expr) (scope : Scope) (F : LM) : Prop where
  ex : ∃ (it : IM) (t : Tg) (g : TG) (tt : TM) (f : XM) (own : List (Str × Nat)), F = lComp it t (own.map Prod.snd) tt f ∧ TgOk X.K p t g ∧ PI X tg iter (tII X.K p (it R)) ∧ BlkOk X.N X.env.scope scope own ∧
    (∀ (s : Shared) (H : Hp) (C : Addr) (cl : List (Str × Addr)) (fp : List Addr), PG (X.blk s H scope (compEnvC scope cl C X.env) fp) tg g) ∧ (∀ (s : Shared) (H : Hp) (C : Addr) (cl : List (Str × Addr)) (fp : List Addr), PTs (X.blk s H scope (compEnvC scope cl C X.env) fp) ifs (tTI X.K p (tt R))) ∧
    (∀ (s : Shared) (H : Hp) (C : Addr) (cl : List (Str × Addr)) (fp : List Addr), PE (X.blk s H scope (compEnvC scope cl C X.env) fp) elt (tI X.K p (f R))) ∧ ∀ x, foldedSetIterable iter X.env x = pure x
theorem PG.any {X : Cx} {tg : Expr} {g : TG} (h : PG X tg g) : PG X tg g := h

structure Snd (p : Addr) (n : Nat) : Prop where
  E : ∀ (C : Ctx) (X : Cx) (R : RC), Mt p C X R → ∀ e f, compE n C e = some f → PE X e (tI X.K p (f R))
  B : ∀ (C : Ctx) (X : Cx) (R : RC), Mt p C X R → ∀ k es f, compB n C k es = some f → ∀ pos, PE X (.BoolOp (if k = true then .And else .Or) es pos) (tI X.K p (f R))
  T : ∀ (C : Ctx) (X : Cx) (R : RC), Mt p C X R → ∀ e f, compT n C e = some f → PT X e (tTI X.K p (f R))
  W : ∀ (C : Ctx) (X : Cx) (R : RC), Mt p C X R → ∀ k es f, compW n C k es = some f → ∀ pos, PW X (.BoolOp (if k = true then .And else .Or) es pos) (tTI X.K p (f R))
  A : ∀ (C : Ctx) (X : Cx) (R : RC), Mt p C X R → ∀ es f, compA n C es = some f → PA X es (tAI X.K p (f R)) ∧ ∀ env S r, f R env S = some r → r.1.length = es.length
  O : ∀ (C : Ctx) (X : Cx) (R : RC), Mt p C X R → ∀ o f, compO n C o = some f → PO X o (tOI X.K p (f R))
  I : ∀ (C : Ctx) (X : Cx) (R : RC), Mt p C X R → ∀ e f, compI n C e = some f → ∀ tg, PI X tg e (tII X.K p (f R))
  C : ∀ (C : Ctx) (X : Cx) (R : RC), Mt p C X R → ∀ elt tg it ifs scope f, compC n C elt tg it ifs scope = some f → CompOk p X R elt tg it ifs scope f

/-- the target's reading is by its places alone -/
def tgG (K : PySem.W.Frag) : Tg → TG
  | .name i => gName i
  | .tup is => gTup K is.length (gAll is)
theorem tgG_ok {K : PySem.W.Frag} {p : Addr} {t : Tg} : TgOk K p t (tgG K t) := by
  cases t with
  | name i => exact tg_name
  | tup is => exact tg_tup
theorem compG_tgG {p : Addr} {C : Ctx} {X : Cx} {R : RC} (m : Mt p C X R) {tg : Expr} {t : Tg} (h : compG C tg = some t) : PG X tg (tgG X.K t) := by
  cases tg <;> simp only [compG] at h <;> first
    | cases h; done
    | skip
  · split at h
    · rename_i hl
      obtain ⟨i, ei, rfl⟩ := Option.map_eq_some_iff.mp h
      obtain ⟨l1, l2⟩ := m.loc hl
      exact pg_name m.hN (m.ix ei) l1 l2
    · cases h
  · obtain ⟨xs, ex, h⟩ := Option.bind_eq_some_iff.mp h
    split at h
    · rename_i hl
      obtain ⟨is, ei, rfl⟩ := Option.map_eq_some_iff.mp h
      obtain ⟨q1, q2, q3⟩ := compG_all m ex hl ei
      exact pg_tup m.calm q1 q2 q3
    · cases h
theorem compG_blk {p : Addr} {C : Ctx} {X : Cx} {R : RC} (m : Mt p C X R) {scope : Scope} {tg : Expr} {t : Tg} (h : compG { C with sc := relS scope C.sc, bs := some scope } tg = some t) :
    ∃ g, TgOk X.K p t g ∧ ∀ (s : Shared) (H : Hp) (L : Addr) (cl : List (Str × Addr)) (fp : List Addr), PG (X.blk s H scope (compEnvC scope cl L X.env) fp) tg g :=
  ⟨tgG X.K t, tgG_ok, fun s H L cl fp => compG_tgG (m.blk s H scope cl L fp) h⟩
theorem snd0 {p : Addr} : Snd p 0 where
  E := fun C X R m e f h => by simp only [compE] at h; cases h
  B := fun C X R m k e f h => by simp only [compB] at h; cases h
  T := fun C X R m e f h => by simp only [compT] at h; cases h
  W := fun C X R m k e f h => by simp only [compW] at h; cases h
  A := fun C X R m e f h => by simp only [compA] at h; cases h
  O := fun C X R m e f h => by simp only [compO] at h; cases h
  I := fun C X R m e f h => by simp only [compI] at h; cases h
  C := fun C X R m a b c d e f h => by simp only [compC] at h; cases h
section
variable {p : Addr} {n : Nat} {C : Ctx} {X : Cx} {R : RC}
theorem sndA (ih : Snd p n) (m : Mt p C X R) (es : List Expr) (f : AM) (h : compA (n + 1) C es = some f) : PA X es (tAI X.K p (f R)) ∧ ∀ env S r, f R env S = some r → r.1.length = es.length := by
  cases es with
  | nil =>
    simp only [compA] at h
    cases h
    exact ⟨ia_nil, fun env S r e => by cases e; rfl⟩
  | cons e es =>
    simp only [compA] at h
    split at h
    · rename_i hs
      obtain ⟨f1, e1, h⟩ := Option.bind_eq_some_iff.mp h
      obtain ⟨f2, e2, rfl⟩ := Option.map_eq_some_iff.mp h
      obtain ⟨q1, q2⟩ := ih.A C X R m es f2 e2
      refine ⟨ia_cons (ih.E C X R m e f1 e1) q1 (star_plain hs), fun env S r e => ?_⟩
      unfold aCons at e
      obtain ⟨x, ex, e⟩ := Option.bind_eq_some_iff.mp e
      obtain ⟨y, ey, rfl⟩ := Option.map_eq_some_iff.mp e
      show y.1.length + 1 = _
      rw [q2 _ _ _ ey]
      rfl
    · cases h
theorem sndO (ih : Snd p n) (m : Mt p C X R) (o : Option Expr) (f : OM) (h : compO (n + 1) C o = some f) : PO X o (tOI X.K p (f R)) := by
  cases o with
  | none =>
    simp only [compO] at h
    cases h
    exact io_none
  | some e =>
    simp only [compO] at h
    obtain ⟨f1, e1, rfl⟩ := Option.map_eq_some_iff.mp h
    exact io_some (ih.E C X R m e f1 e1)
theorem sndB (ih : Snd p n) (m : Mt p C X R) (k : Bool) (es : List Expr) (f : XM) (h : compB (n + 1) C k es = some f) (pos : Pos) : PE X (.BoolOp (if k = true then .And else .Or) es pos) (tI X.K p (f R)) := by
  match es, h with
  | [], h => simp only [compB] at h; cases h
  | [e], h =>
    simp only [compB] at h
    exact pe_one (ih.E C X R m e f h)
  | e :: e' :: es, h =>
    simp only [compB] at h
    obtain ⟨f1, e1, h⟩ := Option.bind_eq_some_iff.mp h
    obtain ⟨f2, e2, rfl⟩ := Option.map_eq_some_iff.mp h
    have q1 := ih.E C X R m e f1 e1
    have q2 := ih.B C X R m k (e' :: es) f2 e2 pos
    cases k with
    | true => exact ie_and q1 q2
    | false => exact ie_or q1 q2
theorem sndW (ih : Snd p n) (m : Mt p C X R) (k : Bool) (es : List Expr) (f : TM) (h : compW (n + 1) C k es = some f) (pos : Pos) : PW X (.BoolOp (if k = true then .And else .Or) es pos) (tTI X.K p (f R)) := by
  match es, h with
  | [], h => simp only [compW] at h; cases h
  | [e], h =>
    simp only [compW] at h
    have q := ih.T C X R m e f h
    cases k with
    | true => exact iw_and1 q
    | false => exact iw_or1 q
  | e :: e' :: es, h =>
    simp only [compW] at h
    obtain ⟨f1, e1, h⟩ := Option.bind_eq_some_iff.mp h
    obtain ⟨f2, e2, rfl⟩ := Option.map_eq_some_iff.mp h
    have q1 := ih.T C X R m e f1 e1
    have q2 := ih.W C X R m k (e' :: es) f2 e2 pos
    cases k with
    | true => exact iw_and q1 q2
    | false => exact iw_or q1 q2
theorem beh_of {op : CmpOp} {b : Expr} (h : notSet b = true) : behindInMarks op b = false := by cases b <;> first | rfl | cases h
theorem sndT (ih : Snd p n) (m : Mt p C X R) (e : Expr) (f : TM) (h : compT (n + 1) C e = some f) : PT X e (tTI X.K p (f R)) := by
  rw [compT.eq_def] at h
  split at h
  · cases h
  · rename_i a pos heq
    cases heq
    obtain ⟨f1, e1, rfl⟩ := Option.map_eq_some_iff.mp h
    exact it_not (ih.T _ X R m a f1 e1)
  · rename_i es pos heq
    cases heq
    exact (ih.W _ X R m true es f h pos).pt
  · rename_i es pos heq
    cases heq
    exact (ih.W _ X R m false es f h pos).pt
  · rename_i a op b pos heq
    cases heq
    split at h
    · rename_i hs
      obtain ⟨f1, e1, h⟩ := Option.bind_eq_some_iff.mp h
      obtain ⟨f2, e2, h⟩ := Option.bind_eq_some_iff.mp h
      obtain ⟨o, eo, rfl⟩ := Option.map_eq_some_iff.mp h
      obtain ⟨r, ho, hv⟩ := cmp_ok (X := X) (p := p) m.units eo
      exact it_bl (f := xBin o f1 f2) ((pt_cmpR ho (ih.E _ X R m a f1 e1) (ih.E _ X R m b f2 e2) (beh_of hs)).imp fun σ H Q q => bin_tI hv q)
    · cases h
  · rename_i a op op' b c pos heq
    cases heq
    split at h
    · rename_i hs
      obtain ⟨f1, e1, h⟩ := Option.bind_eq_some_iff.mp h
      obtain ⟨f2, e2, h⟩ := Option.bind_eq_some_iff.mp h
      obtain ⟨f3, e3, h⟩ := Option.bind_eq_some_iff.mp h
      obtain ⟨o, eo, h⟩ := Option.bind_eq_some_iff.mp h
      obtain ⟨o', eo', rfl⟩ := Option.map_eq_some_iff.mp h
      obtain ⟨r, ho, hv⟩ := cmp_ok (X := X) (p := p) m.units eo
      obtain ⟨r', ho', hv'⟩ := cmp_ok (X := X) (p := p) m.units eo'
      rw [Bool.and_eq_true] at hs
      exact it_bl (f := xChain o o' f1 f2 f3) ((pt_chain ho ho' (ih.E _ X R m a f1 e1) (ih.E _ X R m b f2 e2) (ih.E _ X R m c f3 e3) (show lastMarks [op, op'] [b, c] = false from beh_of hs.2)).imp fun σ H Q q => chain_tI hv hv' q)
    · cases h
  · rename_i g es ks pos heq
    cases heq
    obtain ⟨f1, e1, rfl⟩ := Option.map_eq_some_iff.mp h
    exact it_tru (ih.E _ X R m _ f1 e1) fun _ => rfl
  · rename_i x pos heq
    cases heq
    obtain ⟨f1, e1, rfl⟩ := Option.map_eq_some_iff.mp h
    exact it_tru (ih.E _ X R m _ f1 e1) fun _ => rfl
  · cases h
theorem sndI (ih : Snd p n) (m : Mt p C X R) (e : Expr) (f : IM) (h : compI (n + 1) C e = some f) (tg : Expr) : PI X tg e (tII X.K p (f R)) := by
  simp only [compI] at h
  split at h
  · rename_i a hr
    obtain ⟨q, pos, rfl, hb, hg⟩ := rangeOf_ok hr
    split at h
    · rename_i ha
      obtain ⟨f1, e1, rfl⟩ := Option.map_eq_some_iff.mp h
      exact ii_rng1 (m.gl hg) (m.bls _ hb) (ih.A _ X R m _ f1 e1).1 (star_plain ha)
    · cases h
  · rename_i a b hr
    obtain ⟨q, pos, rfl, hb, hg⟩ := rangeOf_ok hr
    split at h
    · rename_i ha
      rw [Bool.and_eq_true] at ha
      obtain ⟨f1, e1, rfl⟩ := Option.map_eq_some_iff.mp h
      exact ii_rng2 (m.gl hg) (m.bls _ hb) (ih.A _ X R m _ f1 e1).1 (by rw [star_plain ha.1, star_plain ha.2]; rfl) (star_plain ha.2)
    · cases h
  · cases h
  · split at h
    · obtain ⟨f1, e1, rfl⟩ := Option.map_eq_some_iff.mp h
      exact ii_seq (ih.E _ X R m e f1 e1)
    · cases h
theorem sndC (ih : Snd p n) (m : Mt p C X R) (elt tg it : Expr) (ifs : List Expr) (scope : Scope) (f : LM) (h : compC (n + 1) C elt tg it ifs scope = some f) : CompOk p X R elt tg it ifs scope f := by
  simp only [compC] at h
  split at h
  · rename_i hs
    obtain ⟨own, eo, h⟩ := Option.bind_eq_some_iff.mp h
    split at h
    · rename_i hb
      obtain ⟨i, ei, h⟩ := Option.bind_eq_some_iff.mp h
      obtain ⟨t, et, h⟩ := Option.bind_eq_some_iff.mp h
      obtain ⟨tt, ett, h⟩ := Option.bind_eq_some_iff.mp h
      obtain ⟨f1, e1, rfl⟩ := Option.map_eq_some_iff.mp h
      have hg : ∃ g, TgOk X.K p t g ∧ ∀ (s : Shared) (H : Hp) (C : Addr) (cl : List (Str × Addr)) (fp : List Addr), PG (X.blk s H scope (compEnvC scope cl C X.env) fp) tg g := compG_blk m et
      obtain ⟨g, tk, pg⟩ := hg
      refine ⟨i, t, g, tt, f1, own, rfl, tk, ih.I _ X R m it i ei tg, blkOk_by (by rw [m.N, m.sc]; exact hb), pg, fun s H L cl fp => ?_, fun s H L cl fp => ih.E _ _ R (m.blk s H scope cl L fp) elt f1 e1, folded_of hs⟩
      cases ifs with
      | nil =>
        cases ett
        exact its_nil
      | cons c r =>
        cases r with
        | nil => exact its_one (ih.T _ _ R (m.blk s H scope cl L fp) c tt ett)
        | cons _ _ => cases ett
    · cases h
  · cases h
theorem ie_comp {f : LM} {elt tg it : Expr} {ifs : List Expr} {scope : Scope} (m : Mt p C X R) (h : CompOk p X R elt tg it ifs scope f) (pos : Pos) : PE X (.ListComp elt [⟨tg, it, ifs, 0⟩] scope pos) (tLI X.K p (f R)) := by
  obtain ⟨i, t, g, tt, f1, own, rfl, tk, pi, ok, hg, ht, he, hs⟩ := h.ex
  exact il_comp tk m.calm m.hN pi ok hg ht he hs
theorem plain_dbg {x : Str} (h : plainN x = true) : (x == ("__debug__" : Str)) = false ∧ (x == ("__classdict__" : Str)) = false := by
  unfold plainN at h
  rw [Bool.and_eq_true] at h
  exact ⟨by simpa using h.1, by simpa using h.2⟩
theorem sndE (k0 : Nat) (ih : ∀ n', k0 = n' + 1 → Snd p n') (m : Mt p C X R) (e : Expr) (f : XM) (h : compE k0 C e = some f) : PE X e (tI X.K p (f R)) := by
  rw [compE.eq_def] at h
  split at h
  · cases h
  · cases h; exact ie_c pe_int fun _ _ => .int _
  · cases h; exact ie_c pe_bl fun _ _ => .bl _
  · cases h; exact ie_c pe_non fun _ _ => .non
  · cases h; exact ie_c pe_str fun _ _ => .str _
  · rename_i x pos
    split at h
    · rename_i hp
      obtain ⟨d1, d2⟩ := plain_dbg hp
      split at h
      · rename_i hv
        obtain ⟨i, ei, rfl⟩ := Option.map_eq_some_iff.mp h
        exact ie_var (pe_var (m.ix ei) (m.vis hv) d1 d2)
      · split at h
        · rename_i hg
          split at h
          · rename_i d hd
            cases h
            obtain ⟨u, v, hm, r, rp⟩ := m.cs _ d hd
            exact ie_c (pe_glob (m.gl hg) hm r d1) rp
          · split at h
            · rename_i hb
              obtain ⟨t, et, rfl⟩ := Option.map_eq_some_iff.mp h
              obtain ⟨n1, n2⟩ := ty_ok et
              exact ie_c (pe_bltn (v := .ty t) (m.gl hg) (m.bls _ hb) n2 rfl n1 d1) fun _ _ => .ty t
            · cases h
        · cases h
    · cases h
  · rename_i a op b pos
    obtain ⟨f1, e1, h⟩ := Option.bind_eq_some_iff.mp h
    obtain ⟨f2, e2, h⟩ := Option.bind_eq_some_iff.mp h
    obtain ⟨o, eo, rfl⟩ := Option.map_eq_some_iff.mp h
    obtain ⟨r, ho, hv⟩ := bin_ok (X := X) (p := p) eo
    exact ie_bin ho hv ((ih _ rfl).E _ X R m a f1 e1) ((ih _ rfl).E _ X R m b f2 e2)
  · rename_i a pos
    obtain ⟨f1, e1, rfl⟩ := Option.map_eq_some_iff.mp h
    exact ie_not ((ih _ rfl).E _ X R m a f1 e1)
  · rename_i a pos
    obtain ⟨f1, e1, rfl⟩ := Option.map_eq_some_iff.mp h
    exact ie_un un_neg vr_neg ((ih _ rfl).E _ X R m a f1 e1)
  · rename_i es pos
    exact (ih _ rfl).B _ X R m true es f h pos
  · rename_i es pos
    exact (ih _ rfl).B _ X R m false es f h pos
  · rename_i c a b pos
    obtain ⟨f1, e1, h⟩ := Option.bind_eq_some_iff.mp h
    obtain ⟨f2, e2, h⟩ := Option.bind_eq_some_iff.mp h
    obtain ⟨f3, e3, rfl⟩ := Option.map_eq_some_iff.mp h
    exact ie_if ((ih _ rfl).T _ X R m c f1 e1) ((ih _ rfl).E _ X R m a f2 e2) ((ih _ rfl).E _ X R m b f3 e3)
  · rename_i a op b pos
    split at h
    · rename_i hs
      obtain ⟨f1, e1, h⟩ := Option.bind_eq_some_iff.mp h
      obtain ⟨f2, e2, h⟩ := Option.bind_eq_some_iff.mp h
      obtain ⟨o, eo, rfl⟩ := Option.map_eq_some_iff.mp h
      obtain ⟨r, ho, hv⟩ := cmp_ok (X := X) (p := p) m.units eo
      exact ie_cmp ho hv ((ih _ rfl).E _ X R m a f1 e1) ((ih _ rfl).E _ X R m b f2 e2) (beh_of hs)
    · cases h
  · rename_i a op op' b c pos
    split at h
    · rename_i hs
      obtain ⟨f1, e1, h⟩ := Option.bind_eq_some_iff.mp h
      obtain ⟨f2, e2, h⟩ := Option.bind_eq_some_iff.mp h
      obtain ⟨f3, e3, h⟩ := Option.bind_eq_some_iff.mp h
      obtain ⟨o, eo, h⟩ := Option.bind_eq_some_iff.mp h
      obtain ⟨o', eo', rfl⟩ := Option.map_eq_some_iff.mp h
      obtain ⟨r, ho, hv⟩ := cmp_ok (X := X) (p := p) m.units eo
      obtain ⟨r', ho', hv'⟩ := cmp_ok (X := X) (p := p) m.units eo'
      rw [Bool.and_eq_true] at hs
      exact (pe_chain ho ho' ((ih _ rfl).E _ X R m a f1 e1) ((ih _ rfl).E _ X R m b f2 e2) ((ih _ rfl).E _ X R m c f3 e3) (show lastMarks [op, op'] [b, c] = false from beh_of hs.2)).imp fun σ H Q q => chain_tI hv hv' q
    · cases h
  · rename_i es k pos
    obtain ⟨f1, e1, rfl⟩ := Option.map_eq_some_iff.mp h
    exact ie_tup ((ih _ rfl).A _ X R m es f1 e1).1
  · rename_i es pos
    obtain ⟨f1, e1, rfl⟩ := Option.map_eq_some_iff.mp h
    exact ie_lst (il_disp ((ih _ rfl).A _ X R m es f1 e1).1)
  · rename_i elt tg it ifs scope pos
    obtain ⟨f1, e1, rfl⟩ := Option.map_eq_some_iff.mp h
    exact ie_lst (ie_comp m ((ih _ rfl).C _ X R m elt tg it ifs scope f1 e1) pos)
  · rename_i v lo hi p2 pos
    obtain ⟨f1, e1, h⟩ := Option.bind_eq_some_iff.mp h
    obtain ⟨f2, e2, h⟩ := Option.bind_eq_some_iff.mp h
    obtain ⟨f3, e3, rfl⟩ := Option.map_eq_some_iff.mp h
    exact ie_sli ((ih _ rfl).E _ X R m v f1 e1) ((ih _ rfl).O _ X R m lo f2 e2) ((ih _ rfl).O _ X R m hi f3 e3)
  · rename_i v i pos hno
    split at h
    · rename_i hs
      obtain ⟨f1, e1, h⟩ := Option.bind_eq_some_iff.mp h
      obtain ⟨f2, e2, rfl⟩ := Option.map_eq_some_iff.mp h
      exact ie_xix ((ih _ rfl).E _ X R m v f1 e1) ((ih _ rfl).E _ X R m i f2 e2) (plainIx_of hs)
    · cases h
  · rename_i x q pos
    split at h
    · rename_i hc
      rw [Bool.and_eq_true] at hc
      split at h
      · rename_i hl
        cases h
        obtain ⟨k, fa, fd, ps, F, hr, hm, hk, hb⟩ := m.fns _ _ hl
        exact ie_call0 F hr (m.gl hc.1) hm hk hb (plain_dbg hc.2).1
      · cases h
    · cases h
  · rename_i x q e es pos
    split at h
    · rename_i hc
      rw [Bool.and_eq_true, Bool.and_eq_true] at hc
      have hs := hc.2
      rw [List.all_cons, Bool.and_eq_true] at hs
      obtain ⟨f1, e1, h⟩ := Option.bind_eq_some_iff.mp h
      obtain ⟨q1, q2⟩ := (ih _ rfl).A _ X R m _ f1 e1
      split at h
      · rename_i mm hl
        split at h
        · rename_i hm'
          cases h
          obtain ⟨k, fa, fd, ps, F, hr, hm, hk, hb⟩ := m.fns _ _ hl
          exact ie_call F hr (m.gl hc.1.1) hm hk hb (fun env S r e => by rw [q2 env S r e]; exact hm'.symm) q1 (plain_dbg hc.1.2).1 (star_plain hs.1) (star_any hs.2)
        · cases h
      · split at h
        · rename_i hb
          obtain ⟨g, eg, rfl⟩ := Option.map_eq_some_iff.mp h
          obtain ⟨n1, hh⟩ := blt_ok (X := X) (p := p) m.calm eg
          rcases hh with ⟨id, r, b1, b2, b3⟩ | ⟨T, r, b1, b2, b3⟩
          · exact ie_callB b2 b3 (m.gl hc.1.1) (m.bls _ hb) b1 q1 n1 (plain_dbg hc.1.2).1 (star_plain hs.1) (star_any hs.2)
          · exact ie_callTy b2 b3 (m.gl hc.1.1) (m.bls _ hb) b1 q1 n1 (plain_dbg hc.1.2).1 (star_plain hs.1) (star_any hs.2)
        · cases h
    · cases h
  · cases h
end
theorem snd {p : Addr} : ∀ n, Snd p n
  | 0 => snd0
  | n + 1 => by
    have ih := @snd p n
    exact ⟨fun C X R m => sndE _ (fun n' hn => by cases hn; exact ih) m, fun C X R m => sndB ih m, fun C X R m => sndT ih m, fun C X R m => sndW ih m, fun C X R m => sndA ih m, fun C X R m => sndO ih m, fun C X R m => sndI ih m, fun C X R m => sndC ih m⟩
end Ip

set_option maxHeartbeats 4000000
/-! IpI: statements compiled. -/
namespace Ip
open PySem L2

def blockFn (C : Ctx) : Bool := decide (C.sc.kind = .function)
section
variable {p : Addr} {C : Ctx} {X : Cx} {R : RC} {pos : Pos}
theorem Mt.block (m : Mt p C X R) (h : blockFn C = true) : X.env.blockKind = .function := by
  have h := of_decide_eq_true h
  unfold PySem.Env.blockKind
  rw [m.sc, h]
  rfl
theorem sw_comp {elt : Expr} {gs : List Comprehension} {scope : Scope} {cp py : Pos} {t : Str} {l : Nat} {env : Env} :
    swapsWith (.ListComp elt gs scope cp) (some (.Name t py)) l env = pure (env.blockKind == .function && env.kindOf t == some .local && py.line == cp.line && !(scope.names.any fun (n, k) => n == t && (k == .local || k == .cell))) := rfl
theorem is_setC (m : Mt p C X R) {i : Nat} {y : Str} {py spos cp : Pos} {F : LM} {elt tg iter : Expr} {ifs : List Expr} {scope : Scope} (hi : findIx C.N y = some i) (hl : locB C y = true) (h : CompOk p X R elt tg iter ifs scope F) :
    PS X (.Assign [.Name y py] (.ListComp elt [⟨tg, iter, ifs, 0⟩] scope cp) spos) (tIS X.K p (sAsg (.name i) (xLst F) R)) := by
  obtain ⟨l1, l2⟩ := m.loc hl
  cases hb : (X.env.blockKind == .function && X.env.kindOf y == some .local && py.line == cp.line && !(scope.names.any fun (n, k) => n == y && (k == .local || k == .cell))) with
  | false => exact is_set m.hN (m.ix hi) l1 (ie_lst (ie_comp m h cp)) (by rw [sw_comp, hb]) l2
  | true =>
    obtain ⟨it, t, g, tt, f1, own, rfl, tk, pi, ok, hg, ht, he, hs⟩ := h.ex
    have hyl : X.env.scope.names.lookup y = some .local := by
      simp only [Bool.and_eq_true, beq_iff_eq] at hb
      exact hb.1.1.2
    exact (ps_setLc m.calm m.hN (m.ix hi) hyl (by rw [sw_comp, hb]) pi ok hg ht he hs).imp fun Dn σ H q => comp_tLc tk (lst_tLI (asg_I tg_name q))
/-- two names at once: the conditions -/
def par2B (C : Ctx) (x y : Str) (px py : Pos) (a b : Expr) : Bool := blockFn C && decide (C.sc.names.lookup x = some .local) && decide (C.sc.names.lookup y = some .local) && (py.line == px.line) && decide (x ≠ y) && notStar a && notStar b && !(foldedForSure 8 a && foldedForSure 8 b) && !(constantsAlone 8 a && constantsAlone 8 b)
def par3B (C : Ctx) (x y z : Str) (px py pz : Pos) (a b c : Expr) : Bool := blockFn C && decide (C.sc.names.lookup x = some .local) && decide (C.sc.names.lookup y = some .local) && decide (C.sc.names.lookup z = some .local) && (py.line == px.line) && (pz.line == px.line) && decide (x ≠ y) && decide (x ≠ z) && decide (y ≠ z) &&
  notStar a && notStar b && notStar c && !(foldedForSure 8 a && (foldedForSure 8 b && foldedForSure 8 c)) && !(constantsAlone 8 a && (constantsAlone 8 b && constantsAlone 8 c))
theorem par2_ok (m : Mt p C X R) {x y : Str} {px py pt pt2 : Pos} {kt k2 : Nat} {a b : Expr} (h : par2B C x y px py a b = true) : swappedStores [.Tuple [.Name x px, .Name y py] kt pt] (.Tuple [a, b] k2 pt2) X.env = pure (some [x, y]) := by
  unfold par2B at h
  simp only [Bool.and_eq_true, decide_eq_true_eq, Bool.not_eq_true', beq_iff_eq] at h
  obtain ⟨⟨⟨⟨⟨⟨⟨⟨h1, h2⟩, h3⟩, h4⟩, h5⟩, h6⟩, h7⟩, h8⟩, h9⟩ := h
  have kx : X.env.kindOf x = some .local := by
    show X.env.scope.names.lookup x = _
    rw [m.sc]; exact h2
  have ky : X.env.kindOf y = some .local := by
    show X.env.scope.names.lookup y = _
    rw [m.sc]; exact h3
  have hb := m.block h1
  unfold swappedStores
  have e5 : (y == x) = false := by simpa using Ne.symm h5
  simp [hb, kx, ky, h4, h5, h8, h9, Expr.pos, List.eraseDups_cons, e5]
  intro h
  rcases h with h | h
  · cases a <;> first | cases h; done | cases h6
  · cases b <;> first | cases h; done | cases h7
theorem par3_ok (m : Mt p C X R) {x y z : Str} {px py pz pt pt2 : Pos} {kt k2 : Nat} {a b c : Expr} (h : par3B C x y z px py pz a b c = true) : swappedStores [.Tuple [.Name x px, .Name y py, .Name z pz] kt pt] (.Tuple [a, b, c] k2 pt2) X.env = pure (some [x, y, z]) := by
  unfold par3B at h
  simp only [Bool.and_eq_true, decide_eq_true_eq, Bool.not_eq_true', beq_iff_eq] at h
  obtain ⟨⟨⟨⟨⟨⟨⟨⟨⟨⟨⟨⟨⟨h1, h2⟩, h3⟩, h3z⟩, h4⟩, h4z⟩, h5⟩, h5b⟩, h5c⟩, h6⟩, h7⟩, h7c⟩, h8⟩, h9⟩ := h
  have kx : X.env.kindOf x = some .local := by
    show X.env.scope.names.lookup x = _
    rw [m.sc]; exact h2
  have ky : X.env.kindOf y = some .local := by
    show X.env.scope.names.lookup y = _
    rw [m.sc]; exact h3
  have kz : X.env.kindOf z = some .local := by
    show X.env.scope.names.lookup z = _
    rw [m.sc]; exact h3z
  have hb := m.block h1
  unfold swappedStores
  have e5 : (y == x) = false := by simpa using Ne.symm h5
  have e5b : (z == x) = false := by simpa using Ne.symm h5b
  have e5c : (z == y) = false := by simpa using Ne.symm h5c
  simp [hb, kx, ky, kz, h4, h4z, h5, h8, h9, Expr.pos, List.eraseDups_cons, e5, e5b, e5c]
  intro h
  rcases h with h | h | h
  · cases a <;> first | cases h; done | cases h6
  · cases b <;> first | cases h; done | cases h7
  · cases c <;> first | cases h; done | cases h7c
theorem sw_sole {t e : Expr} {l : Nat} {env : Env} (h : notName t = true) : swapsWithSole [t] e l env = pure false := sw_tgt h
def notTup : Expr → Bool
  | .Tuple _ _ _ => false
  | _ => true
theorem swst_of {t e : Expr} {env : Env} (h : notTup e = true) : swappedStores [t] e env = pure none := by
  cases e <;> first | cases h; done | (cases t <;> rfl)
theorem swst_tgt {t e : Expr} {env : Env} (h : ∀ es k q, t ≠ .Tuple es k q) (h2 : ∀ es q, t ≠ .List es q) : swappedStores [t] e env = pure none := by
  cases t <;> first | exact absurd rfl (h _ _ _) | exact absurd rfl (h2 _ _) | (cases e <;> rfl)

/-! ### three names at once, data alone -/
def sPar3 (i j l : Nat) (f g h : XM) : SM := fun R env S => (f R env S).bind fun x => (g R env x.2).bind fun y => (h R env y.2).bind fun z =>
  some (.nx, ((env.set i (some (.sh x.1))).set j (some (.sh y.1))).set l (some (.sh z.1)), z.2)
theorem is_par3 {i j l : Nat} {x y z : Str} {a b c : Expr} {px py pz pt : Pos} {kt k2 pt2} {f g h : XM} (m : Mt p C X R) (hi : findIx C.N x = some i) (hj : findIx C.N y = some j) (hl : findIx C.N z = some l) (hc : par3B C x y z px py pz a b c = true)
    (ha : PE X a (tI X.K p (f R))) (hb : PE X b (tI X.K p (g R))) (hc' : PE X c (tI X.K p (h R))) :
    PS X (.Assign [.Tuple [.Name x px, .Name y py, .Name z pz] kt pt] (.Tuple [a, b, c] k2 pt2) pos) (tIS X.K p (sPar3 i j l f g h R)) := by
  have hw := par3_ok (kt := kt) (k2 := k2) (pt := pt) (pt2 := pt2) m hc
  unfold par3B at hc
  simp only [Bool.and_eq_true, decide_eq_true_eq] at hc
  obtain ⟨⟨⟨⟨⟨⟨⟨⟨⟨⟨⟨⟨⟨h1, h2⟩, h3⟩, h3z⟩, h4⟩, h4z⟩, h5⟩, h5b⟩, h5c⟩, h6⟩, h7⟩, h7c⟩, h8⟩, h9⟩ := hc
  have ne : ∀ {u v : Str} {i j : Nat}, u ≠ v → findIx C.N u = some i → findIx C.N v = some j → i ≠ j := fun {u v i j} h e1 e2 z => by
    subst z
    have q := (findIx_get e1).symm.trans (findIx_get e2)
    exact h (Option.some.inj q)
  have lx : ∀ u, C.sc.names.lookup u = some .local → X.env.scope.names.lookup u = some .local := fun u h => by rw [m.sc]; exact h
  refine (ps_par3 m.calm m.hN (m.ix hi) (m.ix hj) (m.ix hl) (ne h5 hi hj) (ne h5b hi hl) (ne h5c hj hl) (lx x h2) (lx y h3) (lx z h3z) (pa_cons ha (pa_cons hb (pa_cons hc' pa_nil (star_plain h7c)) (star_plain h7)) (star_plain h6)) hw (sw_sole rfl)).imp fun Dn σ H q => ?_
  obtain ⟨env, S, B0, oa, f0, w, e1, k⟩ := q
  unfold sPar3 at e1
  obtain ⟨x1, ex, e1⟩ := Option.bind_eq_some_iff.mp e1
  obtain ⟨y1, ey, e1⟩ := Option.bind_eq_some_iff.mp e1
  obtain ⟨z1, ez, e1⟩ := Option.bind_eq_some_iff.mp e1
  cases e1
  refine ⟨env, S, B0, oa, f0, x1, ex, fun v H1 f1 k1 r1 => ⟨env, _, B0, oa, f1, y1, ey, fun u H2 f2 k2 r2 => ⟨env, _, B0, oa, f2, z1, ez, fun t H3 f3 k3 r3 => ⟨v, u, t, rfl, ?_⟩⟩⟩⟩
  have k13 := (k1.trans k2).trans k3
  have q1 := r1.keep f1 (k2.trans k3)
  have q2 := r2.keep f2 k3
  have g1 := f3.set i q1
  have g2 := g1.set j (q2.less fun b => bf_drop)
  have g3 := g2.set l (r3.less fun b h => bf_drop (bf_drop h))
  exact k _ H3 _ g3 ((((k13.mv f3.pool.some).trans (Mv.drop i)).trans (Mv.drop j)).trans (Mv.drop l))

/-! ### name += e -/
def sAug (i : Nat) (o : D → D → Option D) (f : XM) : SM := fun R env S => match env[i]? with
  | some (some (.sh d)) => (f R env S).bind fun x => (o d x.1).map fun r => (.nx, env.set i (some (.sh r)), x.2)
  | _ => none
def augI : Operator → Option (Int → Int → Int)
  | .Add => some fun i j => i + j
  | .Sub => some fun i j => i - j
  | _ => none
theorem aug_ok {op : Operator} {g : Int → Int → Int} (h : augI op = some g) : PIp X op (ipI g) := by
  cases op <;> simp only [augI] at h <;> first
    | cases h; done
    | skip
  · cases h; exact ip_add
  · cases h; exact ip_sub
theorem is_aug {i : Nat} {x : Str} {op : Operator} {g : Int → Int → Int} {e : Expr} {f : XM} {pos' : Pos} (m : Mt p C X R) (hi : findIx C.N x = some i) (hl : locB C x = true) (ho : augI op = some g) (h : PE X e (tI X.K p (f R))) :
    PS X (.AugAssign (.Name x pos') op e pos) (tIS X.K p (sAug i (intD fun a b => some (g a b)) f R)) := by
  obtain ⟨l1, l2⟩ := m.loc hl
  refine (ps_aug m.hN (m.ix hi) l1 h (aug_ok ho) l2).imp fun Dn σ H q => ?_
  obtain ⟨env, S, B0, oa, f0, w, e1, k⟩ := q
  unfold sAug at e1
  split at e1
  · rename_i d hd
    obtain ⟨x1, ex, e1⟩ := Option.bind_eq_some_iff.mp e1
    obtain ⟨r, er, rfl⟩ := Option.map_eq_some_iff.mp e1
    obtain ⟨v, ev, rv⟩ := f0.sh i d hd
    refine ⟨v, ev, env, S, B0, oa, f0, x1, ex, fun u H1 f1 k1 r1 => ?_⟩
    have rv1 := rv.keep f0 k1
    generalize x1.1 = dx at r1 er
    cases rv1 <;> cases r1 <;> simp only [intD] at er <;> first
      | cases er; done
      | skip
    cases er
    exact ⟨_, _, rfl, rfl, k _ H1 _ (f1.set i (.int _)) ((k1.mv f1.pool.some).trans (Mv.drop i))⟩
  · cases e1
end

/-! ### statements -/
mutual
def compS : Nat → Ctx → Stmt → Option SM
  | 0, _, _ => none
  | n + 1, C, .Return (some e) _ => (compE n C e).map sRet
  | n + 1, C, .Assign [.Name x _] e _ => if locB C x then (findIx C.N x).bind fun i => match e with
      | .ListComp elt [⟨tg, it, ifs, 0⟩] scope _ => (compC n C elt tg it ifs scope).map fun f => sAsg (.name i) (xLst f)
      | e => if notComp e then (compE n C e).map (sAsg (.name i)) else none
    else none
  | n + 1, C, .Assign [.Tuple [.Name x px, .Name y py, .Name z pz] _ _] (.Tuple [a, b, c] _ _) _ => if par3B C x y z px py pz a b c then
      (findIx C.N x).bind fun i => (findIx C.N y).bind fun j => (findIx C.N z).bind fun l => (compE n C a).bind fun f => (compE n C b).bind fun g => (compE n C c).map fun h => sPar3 i j l f g h
    else none
  | n + 1, C, .Assign [.Tuple [.Name x px, .Name y py] _ _] (.Tuple [a, b] _ _) _ => if par2B C x y px py a b then
      (findIx C.N x).bind fun i => (findIx C.N y).bind fun j => (compE n C a).bind fun f => (compE n C b).map fun g => sPar i j (vSh f) (vSh g)
    else none
  | n + 1, C, .Assign [.Tuple ts k q] e _ => if notTup e then (compG C (.Tuple ts k q)).bind fun t => (compE n C e).map (sAsg t) else none
  | n + 1, C, .Assign [.Subscript o i _] e _ => if notSlice i then (compE n C o).bind fun f => (compE n C i).bind fun g => (compE n C e).map fun h => sPool f g h else none
  | n + 1, C, .AugAssign (.Name x _) op e _ => if locB C x then (findIx C.N x).bind fun i => (augI op).bind fun g => (compE n C e).map (sAug i (intD fun a b => some (g a b))) else none
  | n + 1, C, .If c a b _ => (compT n C c).bind fun t => (compSs n C a).bind fun f => (compSs n C b).map fun g => sIf t f g
  | n + 1, C, .For tg it body [] _ => if notSet it then (compI n C it).bind fun i => (compG C tg).bind fun t => (compSs n C body).map fun f => sFor i t f else none
  | n + 1, C, .While c body [] _ => (compT n C c).bind fun t => (compSs n C body).map fun f => sWhile 1000000 t f
  | n + 1, C, .Pass _ => some sNil
  | n + 1, C, .Break _ => some sBk
  | n + 1, C, .Continue _ => some sCt
  | _, _, _ => none
def compSs : Nat → Ctx → List Stmt → Option SM
  | 0, _, _ => none
  | n + 1, C, [] => some sNil
  | n + 1, C, s :: ss => (compS n C s).bind fun f => (compSs n C ss).map fun g => sSeq f g
end

structure SndS (p : Addr) (n : Nat) : Prop where
  S : ∀ (C : Ctx) (X : Cx) (R : RC), Mt p C X R → ∀ st f, compS n C st = some f → PS X st (tIS X.K p (f R))
  Ss : ∀ (C : Ctx) (X : Cx) (R : RC), Mt p C X R → ∀ sts f, compSs n C sts = some f → PSs X sts (tIS X.K p (f R))
theorem sndS0 {p : Addr} : SndS p 0 where
  S := fun C X R m st f h => by simp only [compS] at h; cases h
  Ss := fun C X R m st f h => by simp only [compSs] at h; cases h
section
variable {p : Addr} {n : Nat} {C : Ctx} {X : Cx} {R : RC}
theorem Mt.own (m : Mt p C X R) : PassesOwn (model X.prog X.w) X.A X.env X.xe := by
  rw [m.xe]
  exact PassesOwn.never
theorem sndSs (ih : SndS p n) (m : Mt p C X R) (sts : List Stmt) (f : SM) (h : compSs (n + 1) C sts = some f) : PSs X sts (tIS X.K p (f R)) := by
  cases sts with
  | nil =>
    simp only [compSs] at h
    cases h
    exact is_nil
  | cons st sts =>
    simp only [compSs] at h
    obtain ⟨f1, e1, h⟩ := Option.bind_eq_some_iff.mp h
    obtain ⟨f2, e2, rfl⟩ := Option.map_eq_some_iff.mp h
    exact is_cons (ih.S C X R m st f1 e1) (ih.Ss C X R m sts f2 e2)
theorem sndS_ (k0 : Nat) (ih : ∀ n', k0 = n' + 1 → SndS p n') (m : Mt p C X R) (st : Stmt) (f : SM) (h : compS k0 C st = some f) : PS X st (tIS X.K p (f R)) := by
  rw [compS.eq_def] at h
  split at h
  · cases h
  · rename_i e pos
    obtain ⟨f1, e1, rfl⟩ := Option.map_eq_some_iff.mp h
    exact is_ret ((snd _).E _ X R m e f1 e1)
  · rename_i x px e pos
    split at h
    · rename_i hl
      obtain ⟨i, ei, h⟩ := Option.bind_eq_some_iff.mp h
      split at h
      · rename_i elt tg it ifs scope cp _
        obtain ⟨f1, e1, rfl⟩ := Option.map_eq_some_iff.mp h
        exact is_setC m ei hl ((snd _).C _ X R m elt tg it ifs scope f1 e1)
      · split at h
        · rename_i hn
          obtain ⟨f1, e1, rfl⟩ := Option.map_eq_some_iff.mp h
          obtain ⟨l1, l2⟩ := m.loc hl
          exact is_set m.hN (m.ix ei) l1 ((snd _).E _ X R m _ f1 e1) (sw_of hn) l2
        · cases h
    · cases h
  · rename_i x px y py z pz kt q a b c k2 q2 pos
    split at h
    · rename_i hc
      obtain ⟨i, ei, h⟩ := Option.bind_eq_some_iff.mp h
      obtain ⟨j, ej, h⟩ := Option.bind_eq_some_iff.mp h
      obtain ⟨l, el, h⟩ := Option.bind_eq_some_iff.mp h
      obtain ⟨f1, e1, h⟩ := Option.bind_eq_some_iff.mp h
      obtain ⟨f2, e2, h⟩ := Option.bind_eq_some_iff.mp h
      obtain ⟨f3, e3, rfl⟩ := Option.map_eq_some_iff.mp h
      exact is_par3 m ei ej el hc ((snd _).E _ X R m a f1 e1) ((snd _).E _ X R m b f2 e2) ((snd _).E _ X R m c f3 e3)
    · cases h
  · rename_i x px y py kt q a b k2 q2 pos
    split at h
    · rename_i hc
      obtain ⟨i, ei, h⟩ := Option.bind_eq_some_iff.mp h
      obtain ⟨j, ej, h⟩ := Option.bind_eq_some_iff.mp h
      obtain ⟨f1, e1, h⟩ := Option.bind_eq_some_iff.mp h
      obtain ⟨f2, e2, rfl⟩ := Option.map_eq_some_iff.mp h
      have hw := par2_ok (kt := kt) (k2 := k2) (pt := q) (pt2 := q2) m hc
      unfold par2B at hc
      simp only [Bool.and_eq_true, decide_eq_true_eq] at hc
      obtain ⟨⟨⟨⟨⟨⟨⟨⟨h1, h2⟩, h3⟩, h4⟩, h5⟩, h6⟩, h7⟩, h8⟩, h9⟩ := hc
      have ne : i ≠ j := fun z => by
        subst z
        exact h5 (Option.some.inj ((findIx_get ei).symm.trans (findIx_get ej)))
      have lx : ∀ u, C.sc.names.lookup u = some .local → X.env.scope.names.lookup u = some .local := fun u h => by rw [m.sc]; exact h
      exact is_par m.calm m.hN (m.ix ei) (m.ix ej) ne (lx x h2) (lx y h3) (iv_sh ((snd _).E _ X R m a f1 e1)) (iv_sh ((snd _).E _ X R m b f2 e2)) (star_plain h6) (star_plain h7) hw (sw_sole rfl)
    · cases h
  · rename_i ts k q e pos _ _
    split at h
    · rename_i hn
      obtain ⟨t, et, h⟩ := Option.bind_eq_some_iff.mp h
      obtain ⟨f1, e1, rfl⟩ := Option.map_eq_some_iff.mp h
      exact is_asg tgG_ok ((snd _).E _ X R m e f1 e1) (compG_tgG m et) (sw_sole rfl) (swst_of hn) rfl
    · cases h
  · rename_i o i q e pos
    split at h
    · rename_i hn
      obtain ⟨f1, e1, h⟩ := Option.bind_eq_some_iff.mp h
      obtain ⟨f2, e2, h⟩ := Option.bind_eq_some_iff.mp h
      obtain ⟨f3, e3, rfl⟩ := Option.map_eq_some_iff.mp h
      refine is_pool ((snd _).E _ X R m o f1 e1) ((snd _).E _ X R m i f2 e2) ((snd _).E _ X R m e f3 e3) (sw_sole rfl) (swst_tgt (fun _ _ _ z => nomatch z) (fun _ _ z => nomatch z)) rfl ?_
      intro v
      cases i <;> first | rfl | cases hn
    · cases h
  · rename_i x q op e pos
    split at h
    · rename_i hl
      obtain ⟨i, ei, h⟩ := Option.bind_eq_some_iff.mp h
      obtain ⟨g, eg, h⟩ := Option.bind_eq_some_iff.mp h
      obtain ⟨f1, e1, rfl⟩ := Option.map_eq_some_iff.mp h
      exact is_aug m ei hl eg ((snd _).E _ X R m e f1 e1)
    · cases h
  · rename_i c a b pos
    obtain ⟨t, et, h⟩ := Option.bind_eq_some_iff.mp h
    obtain ⟨f1, e1, h⟩ := Option.bind_eq_some_iff.mp h
    obtain ⟨f2, e2, rfl⟩ := Option.map_eq_some_iff.mp h
    exact is_if ((snd _).T _ X R m c t et) ((ih _ rfl).Ss _ X R m a f1 e1) ((ih _ rfl).Ss _ X R m b f2 e2)
  · rename_i tg it body pos
    split at h
    · rename_i hs
      obtain ⟨i, ei, h⟩ := Option.bind_eq_some_iff.mp h
      obtain ⟨t, et, h⟩ := Option.bind_eq_some_iff.mp h
      obtain ⟨f1, e1, rfl⟩ := Option.map_eq_some_iff.mp h
      exact is_for m.own m.calm tgG_ok ((snd _).I _ X R m it i ei tg) (compG_tgG m et) ((ih _ rfl).Ss _ X R m body f1 e1) (folded_of hs)
    · cases h
  · rename_i c body pos
    obtain ⟨t, et, h⟩ := Option.bind_eq_some_iff.mp h
    obtain ⟨f1, e1, rfl⟩ := Option.map_eq_some_iff.mp h
    exact is_while m.own ((snd _).T _ X R m c t et) ((ih _ rfl).Ss _ X R m body f1 e1)
  · cases h; exact is_pass
  · cases h; exact is_bk
  · cases h; exact is_ct
  · cases h
end
theorem sndS {p : Addr} : ∀ n, SndS p n
  | 0 => sndS0
  | n + 1 => by
    have ih := @sndS p n
    exact ⟨fun C X R m => sndS_ _ (fun n' hn => by cases hn; exact ih) m, fun C X R m => sndSs ih m⟩
end Ip

set_option maxHeartbeats 4000000
/-! IpJ: defs, the whole table, the law. -/
namespace Ip
open PySem L2

structure DefI where
  name : Str
  st : Stmt
  ps : List Str
  N : List Str

def scopeB (N ps : List Str) (sc : Scope) : Bool := decide (sc.kind = .function) && !sc.isCoroutine && !sc.isGenerator && decide (N.Nodup) && decide (N.take ps.length = ps) &&
  ps.all (fun x => decide (sc.names.lookup x = some .local) || decide (sc.names.lookup x = some .cell)) && sc.names.all (fun y => decide (y.2 ≠ .free))
theorem scopeB_ok {N ps : List Str} {sc : Scope} (h : scopeB N ps sc = true) : FnScope N ps sc := by
  unfold scopeB at h
  simp only [Bool.and_eq_true, decide_eq_true_eq, Bool.not_eq_true', List.all_eq_true, Bool.or_eq_true] at h
  obtain ⟨⟨⟨⟨⟨⟨h1, h2⟩, h3⟩, h4⟩, h5⟩, h6⟩, h7⟩ := h
  exact ⟨h1, h2, h3, h4, h5, h6, h7⟩
/-- the program: its defs, the built-in names that it uses, its constants -/
structure Prg where
  defs : List DefI
  bls : List Str
  cs : List (Str × D)
def Prg.ctx (G : Prg) (d : DefI) : Ctx := { N := d.N, sc := defScope d.st, bs := none, fns := G.defs.map fun e => (e.name, e.ps.length), bls := G.bls, cs := G.cs }
def Prg.body (G : Prg) (d : DefI) : Option SM := if scopeB d.N d.ps (defScope d.st) then compSs 60 (G.ctx d) (defBody d.st) else none
def Prg.find (G : Prg) (x : Str) : Option DefI := G.defs.find? fun d => decide (d.name = x)
def startE (n : Nat) (ds : List D) : En := ds.map (fun d => some (SV.sh d)) ++ List.replicate (n - ds.length) none
def runB (n : Nat) (f : En → List D → Option (Fl × En × List D)) (ds : List D) (S : List D) : Option (D × List D) := (f (startE n ds) S).bind fun r => match r.1 with
  | .ret d => some (d, r.2.2)
  | .nx => some (.non, r.2.2)
  | _ => none
def Prg.run (G : Prg) : Nat → RC
  | 0 => fun _ _ _ => none
  | k + 1 => fun x ds S => (G.find x).bind fun d => (G.body d).bind fun f => runB d.N.length (f (G.run k)) ds S

/-- the program stands in the written part -/
structure PrgOk (G : Prg) (p : Addr) (K : PySem.W.Frag) (mg : Str → Option Value) : Prop where
  defs : ∀ d ∈ G.defs, ∃ f fd, Fun K d.name d.name d.st f fd ∧ mg d.name = some (.ref f) ∧ Binds K fd d.ps []
  bls : ∀ x ∈ G.bls, mg x = none
  cs : ∀ x d, G.cs.lookup x = some d → ∃ u v, mg x = some u ∧ RelV v u ∧ ∀ B H, Rep K p B H v d

section
variable {G : Prg} {p : Addr} {K : PySem.W.Frag} {mg : Str → Option Value} {P : Program} {w : World} {base : Heap}
theorem lookup_map {α β : Type} {f : α → Str} {g : α → β} : ∀ {l : List α} {x : Str} {b : β}, (l.map fun a => (f a, g a)).lookup x = some b → ∃ a ∈ l, f a = x ∧ g a = b
  | [], _, _, h => by simp at h
  | a :: l, x, b, h => by
    simp only [List.map_cons, List.lookup_cons] at h
    split at h
    · rename_i e
      cases h
      exact ⟨a, List.mem_cons_self, (by simpa using (beq_iff_eq.mp e).symm), rfl⟩
    · obtain ⟨a', h1, h2, h3⟩ := lookup_map h
      exact ⟨a', List.mem_cons_of_mem _ h1, h2, h3⟩
theorem start_get {N : List Str} {vs : List V} {i : Nat} {v : V} (h : vs[i]? = some v) : (L2.start N vs)[i]? = some (some v) := by
  unfold L2.start
  have hi : i < vs.length := (List.getElem?_eq_some_iff.mp h).1
  rw [List.getElem?_append_left (by rw [List.length_map]; exact hi), List.getElem?_map, h]
  rfl
theorem startE_get {n : Nat} {ds : List D} {i : Nat} {x : SV} (h : (startE n ds)[i]? = some (some x)) : ∃ d, ds[i]? = some d ∧ x = .sh d := by
  unfold startE at h
  by_cases hi : i < ds.length
  · rw [List.getElem?_append_left (by rw [List.length_map]; exact hi), List.getElem?_map] at h
    obtain ⟨d, hd, e⟩ := Option.map_eq_some_iff.mp h
    exact ⟨d, hd, (Option.some.inj e).symm⟩
  · rw [List.getElem?_append_right (by rw [List.length_map]; omega)] at h
    rw [List.getElem?_replicate] at h
    split at h
    · cases h
    · cases h
theorem start_FI {B0 : Addr → Prop} {H : Hp} {S : List D} {N : List Str} {vs : List V} {ds : List D} (r : Reps K p (Bf B0 p oa0) H vs ds) (hb : ∀ b, B0 b → ∃ o, H b = some o ∧ MutO o) (hp : PoolOk K p (Bf B0 p oa0) H S) (hl : vs.length ≤ N.length) :
    FI K p B0 oa0 (startE N.length ds) (L2.start N vs) H S where
  len := by
    unfold startE L2.start
    rw [List.length_append, List.length_append, List.length_map, List.length_map, List.length_replicate, List.length_replicate, r.length]
  sh := fun i d e => by
    obtain ⟨d', hd, e'⟩ := startE_get e
    cases e'
    obtain ⟨v, hv, q⟩ := r.get hd
    exact ⟨v, start_get hv, q⟩
  ow := fun i a e => nomatch e
  has := fun i x e => by
    obtain ⟨d', hd, e'⟩ := startE_get e
    exact .inl ⟨d', e'⟩
  inj := fun i j a e _ => nomatch e
  dis := fun i a e => nomatch e
  b0 := hb
  pool := hp
theorem Mv.keep {H H' : Hp} (m : Mv p oa0 oa0 H H') : Keep p H H' := fun b o n h => m.kp b o n own0 h
/-- what a body's end gives -/
theorem end_I {B0 : Addr → Prop} {H : Hp} {S : List D} {N : List Str} {vs : List V} {ds : List D} {f : En → List D → Option (Fl × En × List D)} {Q : VK} (f0 : FI K p B0 oa0 (startE N.length ds) (L2.start N vs) H S) {r : D × List D} (e : runB N.length f ds S = some r)
    (k : ∀ v H', Keep p H H' → PoolOk K p (Bf B0 p oa0) H' r.2 → Rep K p (Bf B0 p oa0) H' v r.1 → Q v H') : tIS K p f { nx := fun _ H' => Q .non H', rt := Q } (L2.start N vs) H := by
  unfold runB at e
  obtain ⟨x, ex, e⟩ := Option.bind_eq_some_iff.mp e
  refine ⟨_, S, B0, oa0, f0, x, ex, ?_⟩
  obtain ⟨fl, env', S'⟩ := x
  cases fl with
  | ret d =>
    cases e
    exact fun v H' m q r => k v H' m.keep q r
  | nx =>
    cases e
    intro σ' H' oa' f' m'
    obtain ⟨vs', e', q'⟩ := f'.pool
    refine k .non H' (fun b o n h => m'.kp b o n own0 h) ⟨vs', e', q'.less fun b h => ?_⟩ .non
    rcases h with h | h | h
    · exact .inl h
    · exact .inr (.inl h)
    · exact absurd h own0
  | bk => cases e
  | ct => cases e
theorem mt_of (ok : PrgOk G p K mg) {d : DefI} {k : Nat} (hs : scopeB d.N d.ps (defScope d.st) = true) (ih : ∀ e ∈ G.defs, ∀ f fd, Fun K e.name e.name e.st f fd → FnOk P w K mg base CX0 k f fd e.ps (spI K p e.ps.length (G.run k e.name)))
    {cdv : Value} {A : Around} {outer : List Env} {s : Shared} {H : Hp} {E : XK} {f : Addr} (hr : Room k (A.deeper (PyProof.Rows.envOfC d.name (defScope d.st) s.heap.objs.size f cdv))) : Mt p (G.ctx d) (cxOf CX0 P w K mg base d.N d.name (defScope d.st) f cdv A outer s H E).nox (G.run k) where
  N := rfl
  nd := (scopeB_ok hs).nd
  sc := rfl
  fn := fun _ _ => rfl
  calm := rfl
  units := hr.units
  xe := rfl
  fns := fun x m h => by
    obtain ⟨e, he, rfl, rfl⟩ := lookup_map h
    obtain ⟨g, gd, F, hm, hb⟩ := ok.defs e he
    exact ⟨k, g, gd, e.ps, ih e he g gd F, hr, hm, F.kp, hb⟩
  bls := ok.bls
  cs := ok.cs
/-- every def keeps its promise at every level -/
theorem all_ok (ok : PrgOk G p K mg) (un : ∀ d ∈ G.defs, G.find d.name = some d) : ∀ (k : Nat), ∀ d ∈ G.defs, ∀ f fd, Fun K d.name d.name d.st f fd → FnOk P w K mg base CX0 k f fd d.ps (spI K p d.ps.length (G.run k d.name))
  | 0 => fun d hd f fd F => by
    have no : ∀ vs H Q E, ¬ spI K p d.ps.length (G.run 0 d.name) vs H Q E := fun vs H Q E h => by
      obtain ⟨ds, S, B0, _, _, _, _, r, e, _⟩ := h
      cases e
    exact ⟨fun vs H Q E h => absurd h (no vs H Q E), fun A outer s H args us vs Q E _ _ _ _ h => absurd h (no vs H Q E)⟩
  | k + 1 => fun d hd f fd F => by
    have ih := all_ok ok un k
    have ex : ∀ vs H Q E, spI K p d.ps.length (G.run (k + 1) d.name) vs H Q E → ∃ g, G.body d = some g := fun vs H Q E h => by
      obtain ⟨ds, S, B0, _, _, _, _, r, e, _⟩ := h
      unfold Prg.run at e
      rw [un d hd] at e
      obtain ⟨d', ed, e⟩ := Option.bind_eq_some_iff.mp e
      cases ed
      obtain ⟨g, eg, e⟩ := Option.bind_eq_some_iff.mp e
      exact ⟨g, eg⟩
    by_cases hg : ∃ g, G.body d = some g
    · obtain ⟨g, hg⟩ := hg
      have hg' := hg
      unfold Prg.body at hg'
      split at hg'
      · rename_i hs
        have S := scopeB_ok hs
        have hpn : d.ps.length ≤ d.N.length := by
          have h := S.pre
          have h2 : (d.N.take d.ps.length).length = d.ps.length := by rw [h]
          rw [List.length_take] at h2
          omega
        refine F.ok S (fun vs H Q E h => h.elim fun _ h => h.elim fun _ h => h.elim fun _ h => h.1) (fun cdv A outer s H vs Q E hr h => ?_)
        have m := mt_of (E := E) (H := H) (s := s) (outer := outer) ok hs ih hr
        refine ⟨_, (sndS 60).Ss (G.ctx d) _ (G.run k) m (defBody d.st) g hg', ?_⟩
        obtain ⟨ds, S0, B0, hl, r0, hb, hp, r, e, kk⟩ := h
        unfold Prg.run at e
        rw [un d hd] at e
        obtain ⟨d', ed, e⟩ := Option.bind_eq_some_iff.mp e
        cases ed
        rw [hg] at e
        exact end_I (start_FI r0 hb hp (by rw [hl]; exact hpn)) e kk
      · cases hg'
    · exact ⟨fun vs H Q E h => absurd (ex vs H Q E h) hg, fun A outer s H args us vs Q E _ _ _ _ h => absurd (ex vs H Q E h) hg⟩
end
end Ip

set_option maxHeartbeats 4000000
/-! IpK: the law's own def. -/
namespace Ip
open PySem L2

/-- the pool is made: a new list of a copy of the script, three noughts and a number -/
def spPool (K : PySem.W.Frag) : Sp := fun vs H Q _ => ∃ (a : Addr) (ns : List Int), vs = [.ref a] ∧ SqL K H a (ns.map V.int) ∧ ns.length ≤ 63 ∧
  ∀ (salt : Int) (q p : Addr) (H' : Hp), Same H H' → H p = none → H q = none → q ≠ p → H' q = some (.lst (ns.map V.int)) → H' p = some (.lst [.ref q, .int 0, .int 0, .int 0, .int salt]) → Q (.ref p) H'
def spLaw (K : PySem.W.Frag) : Sp := fun vs H Q _ => ∃ (a : Addr) (ns : List Int), vs = [.ref a] ∧ SqL K H a (ns.map V.int) ∧ ns.length ≤ 63 ∧ ∀ H', Q (.bl true) H'
/-- the pool at first -/
def pool0 (ns : List Int) (salt : Int) : List D := [.lst (ns.map .int), .int 0, .int 0, .int 0, .int salt]
def envL (n j : Nat) : En := (List.replicate n none).set j (some (.sh .pool))

section
variable {G : Prg} {K : PySem.W.Frag} {mg : Str → Option Value} {P : Program} {w : World} {base : Heap}
theorem ints_reps {p : Addr} {B : Addr → Prop} {H : Hp} : ∀ ns : List Int, Reps K p B H (ns.map V.int) (ns.map D.int)
  | [] => .nil
  | n :: ns => .cons (.int n) (ints_reps ns)
theorem ok_law {d : DefI} {k j : Nat} {f fp : Addr} {fd fpd : FuncData} {q1 q2 q3 q4 q5 : Pos} {rest : List Stmt} {g : SM} (ok : ∀ p, PrgOk G p K mg) (un : ∀ d ∈ G.defs, G.find d.name = some d) (hd : d.ps = [("script" : Str)]) (hn : d.name = "law")
    (F : Fun K "law" "law" d.st f fd) (hs : scopeB d.N d.ps (defScope d.st) = true) (Gp : FnOk P w K mg base CX0 k fp fpd ["script"] (spPool K)) (hm : mg "_law_pool" = some (.ref fp)) (hk : PySem.W.keepIn K (.ref fp) = true) (hb : Binds K fpd ["script"] [])
    (hbody : defBody d.st = .Assign [.Name "pool" q1] (.Call (.Name "_law_pool" q2) [.Name "script" q3] [] q4) q5 :: rest) (hj : findIx d.N "pool" = some j) (hl : locB (G.ctx d) "pool" = true) (hv : visB (defScope d.st) "script" = true) (h0 : findIx d.N "script" = some 0) (hg : glB (defScope d.st) "_law_pool" = true)
    (hc : compSs 60 (G.ctx d) rest = some g) (plain : ∀ (ns : List Int) (salt : Int), ns.length ≤ 63 → ∃ env' S', g (G.run k) (envL d.N.length j) (pool0 ns salt) = some (.ret (.bl true), env', S')) :
    FnOk P w K mg base CX0 (k + 1) f fd ["script"] (spLaw K) := by
  have S := scopeB_ok hs
  rw [hd] at S
  have F' : Fun K "law" "law" d.st f fd := F
  refine F.ok S (fun vs H Q E h => ?_) (fun cdv A outer s H vs Q E hr h => ?_)
  · obtain ⟨a, ns, rfl, _⟩ := h
    rfl
  have m : ∀ p, Mt p (G.ctx d) (cxOf CX0 P w K mg base d.N d.name (defScope d.st) f cdv A outer s H E).nox (G.run k) := fun p => mt_of (E := E) (H := H) (s := s) (outer := outer) (ok p) hs (all_ok (ok p) un k) (by rw [hn]; exact hr)
  rw [hn] at m
  obtain ⟨a, ns, rfl, hS, h63, q⟩ := h
  obtain ⟨l1, l2⟩ := (m 0).loc hl
  rw [hbody]
  refine ⟨_, pss_cons (ps_set (m 0).hN ((m 0).ix hj) l1 (pe_call Gp hr ((m 0).gl hg) hm hk hb .nil pass0 (pa_cons (pe_var ((m 0).ix h0) ((m 0).vis hv)) pa_nil)) (hf := l2))
    (u := fun Dn σ H => ∃ p, tIS K p (g (G.run k)) Dn σ H) ⟨fun pins s σ H Dn I ⟨p, z⟩ => ((sndS 60).Ss (G.ctx d) _ (G.run k) (m p) rest g hc).run pins s σ H Dn I z⟩, ?_⟩
  refine ⟨_, rfl, a, ns, rfl, hS, h63, fun salt b p H' sm hp hq ne eq ep => ?_⟩
  refine ⟨p, ?_⟩
  obtain ⟨env', S', e⟩ := plain ns salt h63
  have hjl : j < d.N.length := (List.getElem?_eq_some_iff.mp (findIx_get hj)).1
  have hpl : PoolOk K p (Bf (fun _ => False) p oa0) H' (pool0 ns salt) := by
    refine ⟨_, ep, .cons (.lst eq (fun z => ?_) (ints_reps ns)) (.cons (.int _) (.cons (.int _) (.cons (.int _) (.cons (.int _) .nil))))⟩
    rcases z with z | z | z
    · exact z
    · exact ne z
    · exact own0 z
  refine ⟨envL d.N.length j, pool0 ns salt, fun _ => False, oa0, ⟨?_, fun i x ei => ?_, (fun i a e => nomatch e), fun i x ei => ?_, (fun i j a e _ => nomatch e), (fun i a e => nomatch e), (fun b h => False.elim h), hpl⟩, _, e, ?_⟩
  · unfold envL L2.start
    simp
    omega
  · unfold envL at ei
    by_cases hi : i = j
    · subst hi
      obtain ⟨z, _⟩ := get_set_eq ei
      cases z
      refine ⟨.ref p, List.getElem?_set_self (by unfold L2.start; simp; omega), .pool⟩
    · rw [get_set_ne hi, List.getElem?_replicate] at ei
      split at ei <;> cases ei
  · unfold envL at ei
    by_cases hi : i = j
    · subst hi
      obtain ⟨z, _⟩ := get_set_eq ei
      cases z
      exact .inl ⟨_, rfl⟩
    · rw [get_set_ne hi, List.getElem?_replicate] at ei
      split at ei <;> cases ei
  · intro v H2 _ _ r
    have ev : v = .bl true := rep_bl r
    rw [ev]
    exact q H2
end
end Ip

set_option maxHeartbeats 1000000
/-! IpV: the meanings reckoned, step by step: every step waits for its first part. -/
namespace Ip
open PySem L2
section
variable {R : RC} {env e1 : En} {S S1 S2 : List D} {a b d : D} {ds : List D} {f g h : XM} {as : AM} {o o' : D → D → Option D} {t u : TM} {p q r : SM} {i j : Nat}
/-! ### waiting -/
def pairK : Option D → List D → Option (D × List D)
  | some d, S => some (d, S)
  | none, _ => none
def varK : Option (Option SV) → List D → Option (D × List D)
  | some (some (.sh d)), S => some (d, S)
  | _, _ => none
def binK2 (o : D → D → Option D) (a : D) (x : Option (D × List D)) : Option (D × List D) := x.bind fun y => (o a y.1).map fun d => (d, y.2)
def binK1 (o : D → D → Option D) (g : XM) (R : RC) (env : En) (x : Option (D × List D)) : Option (D × List D) := x.bind fun x => binK2 o x.1 (g R env x.2)
def unK (o : D → Option D) (x : Option (D × List D)) : Option (D × List D) := x.bind fun y => (o y.1).map fun d => (d, y.2)
def appK (o : List D → Option D) (x : Option (List D × List D)) : Option (D × List D) := x.bind fun y => (o y.1).map fun d => (d, y.2)
def callK (x : Str) (R : RC) (y : Option (List D × List D)) : Option (D × List D) := y.bind fun y => R x y.1 y.2
def consK2 (a : D) (x : Option (List D × List D)) : Option (List D × List D) := x.map fun y => (a :: y.1, y.2)
def consK1 (g : AM) (R : RC) (env : En) (x : Option (D × List D)) : Option (List D × List D) := x.bind fun x => consK2 x.1 (g R env x.2)
def tupK (x : Option (List D × List D)) : Option (D × List D) := x.bind fun x => if x.1.length ≤ sizeLine then some (.tup x.1, x.2) else none
def dispK (x : Option (List D × List D)) : Option (List D × List D) := x.bind fun x => if x.1.length ≤ sizeLine then some x else none
def lstK (x : Option (List D × List D)) : Option (D × List D) := x.map fun x => (.lst x.1, x.2)
def ixK2 (a : D) (x : Option (D × List D)) : Option (D × List D) := x.bind fun y => match a, y.1 with
  | .pool, .int i => (atI y.2 i).map fun d => (d, y.2)
  | d, e => (ixD d e).map fun r => (r, y.2)
def ixK1 (g : XM) (R : RC) (env : En) (x : Option (D × List D)) : Option (D × List D) := x.bind fun x => ixK2 x.1 (g R env x.2)
def blK (x : Option (D × List D)) : Option (Bool × List D) := x.bind fun x => (blD x.1).map fun b => (b, x.2)
def truK (x : Option (D × List D)) : Option (Bool × List D) := x.bind fun x => (truD x.1).map fun b => (b, x.2)
def notK (x : Option (Bool × List D)) : Option (Bool × List D) := x.map fun x => (!x.1, x.2)
def andK (g : TM) (R : RC) (env : En) (x : Option (Bool × List D)) : Option (Bool × List D) := x.bind fun x => if x.1 = true then g R env x.2 else some (false, x.2)
def orK (g : TM) (R : RC) (env : En) (x : Option (Bool × List D)) : Option (Bool × List D) := x.bind fun x => if x.1 = true then some (true, x.2) else g R env x.2
def xandK (g : XM) (R : RC) (env : En) (x : Option (D × List D)) : Option (D × List D) := x.bind fun x => (blD x.1).bind fun c => if c = true then g R env x.2 else some (.bl false, x.2)
def xorK (g : XM) (R : RC) (env : En) (x : Option (D × List D)) : Option (D × List D) := x.bind fun x => (blD x.1).bind fun c => if c = true then some (.bl true, x.2) else g R env x.2
def xnotK (x : Option (D × List D)) : Option (D × List D) := x.bind fun x => (blD x.1).map fun c => (.bl (!c), x.2)
def xifK (f g : XM) (R : RC) (env : En) (x : Option (Bool × List D)) : Option (D × List D) := x.bind fun x => if x.1 = true then f R env x.2 else g R env x.2
def chK4 (o' : D → D → Option D) (b : D) (x : Option (D × List D)) : Option (D × List D) := x.bind fun z => (o' b z.1).map fun d => (d, z.2)
def chK3 (o' : D → D → Option D) (h : XM) (R : RC) (env : En) (b : D) (S : List D) (x : Option D) : Option (D × List D) := (x.bind blD).bind fun k => if k = true then chK4 o' b (h R env S) else some (.bl false, S)
def chK2 (o o' : D → D → Option D) (h : XM) (R : RC) (env : En) (a : D) (x : Option (D × List D)) : Option (D × List D) := x.bind fun y => chK3 o' h R env y.1 y.2 (o a y.1)
def chK1 (o o' : D → D → Option D) (g h : XM) (R : RC) (env : En) (x : Option (D × List D)) : Option (D × List D) := x.bind fun x => chK2 o o' h R env x.1 (g R env x.2)
def sliK3 (a : D) (l : Option Int) (x : Option (Option Int × List D)) : Option (D × List D) := x.bind fun h => (sliD a l h.1).map fun d => (d, h.2)
def sliK2 (hi : OM) (R : RC) (env : En) (a : D) (x : Option (Option Int × List D)) : Option (D × List D) := x.bind fun l => sliK3 a l.1 (hi R env l.2)
def sliK1 (lo hi : OM) (R : RC) (env : En) (x : Option (D × List D)) : Option (D × List D) := x.bind fun x => sliK2 hi R env x.1 (lo R env x.2)
def osoK (x : Option (D × List D)) : Option (Option Int × List D) := x.bind fun x => match x.1 with
  | .int i => some (some i, x.2)
  | _ => none
def iofK (x : Option (D × List D)) : Option (List D × List D) := x.bind fun x => (itD x.1).map fun ds => (ds, x.2)
def iargK (o : List D → Option (List D)) (x : Option (List D × List D)) : Option (List D × List D) := x.bind fun x => (o x.1).map fun ds => (ds, x.2)
def seqK (q : SM) (R : RC) (x : Option (Fl × En × List D)) : Option (Fl × En × List D) := x.bind fun r => match r.1 with
  | .nx => q R r.2.1 r.2.2
  | _ => some r
def ifK (p q : SM) (R : RC) (env : En) (x : Option (Bool × List D)) : Option (Fl × En × List D) := x.bind fun x => if x.1 = true then p R env x.2 else q R env x.2
def retK (env : En) (x : Option (D × List D)) : Option (Fl × En × List D) := x.map fun x => (.ret x.1, env, x.2)
def asgK (t : Tg) (env : En) (x : Option (D × List D)) : Option (Fl × En × List D) := x.bind fun x => (putT t x.1 env).map fun env' => (.nx, env', x.2)
def poolK3 (env : En) (v : D) (a : D) (x : Option (D × List D)) : Option (Fl × En × List D) := x.bind fun z => match a, z.1 with
  | .pool, .int i => (ixN z.2.length i).map fun j => (.nx, env, z.2.set j v)
  | _, _ => none
def poolK2 (fi : XM) (R : RC) (env : En) (v : D) (x : Option (D × List D)) : Option (Fl × En × List D) := x.bind fun y => poolK3 env v y.1 (fi R env y.2)
def poolK1 (fo fi : XM) (R : RC) (env : En) (x : Option (D × List D)) : Option (Fl × En × List D) := x.bind fun x => poolK2 fi R env x.1 (fo R env x.2)
def forK (t : Tg) (q : SM) (R : RC) (env : En) (x : Option (List D × List D)) : Option (Fl × En × List D) := x.bind fun x => forL t (q R) x.1 env x.2
def forK2 (t : Tg) (b : En → List D → Option (Fl × En × List D)) (ds : List D) (x : Option (Fl × En × List D)) : Option (Fl × En × List D) := x.bind fun r => match r.1 with
  | .nx => forL t b ds r.2.1 r.2.2
  | .ct => forL t b ds r.2.1 r.2.2
  | .bk => some (.nx, r.2.1, r.2.2)
  | .ret d => some (.ret d, r.2.1, r.2.2)
def forK1 (t : Tg) (b : En → List D → Option (Fl × En × List D)) (ds : List D) (S : List D) (x : Option En) : Option (Fl × En × List D) := x.bind fun e => forK2 t b ds (b e S)
def augK (i : Nat) (o : D → D → Option D) (env : En) (a : D) (x : Option (D × List D)) : Option (Fl × En × List D) := x.bind fun x => (o a x.1).map fun r => (.nx, env.set i (some (.sh r)), x.2)
def par3K3 (i j l : Nat) (env : En) (a b : D) (x : Option (D × List D)) : Option (Fl × En × List D) := x.bind fun z => some (.nx, ((env.set i (some (.sh a))).set j (some (.sh b))).set l (some (.sh z.1)), z.2)
def par3K2 (i j l : Nat) (h : XM) (R : RC) (env : En) (a : D) (x : Option (D × List D)) : Option (Fl × En × List D) := x.bind fun y => par3K3 i j l env a y.1 (h R env y.2)
def par3K1 (i j l : Nat) (g h : XM) (R : RC) (env : En) (x : Option (D × List D)) : Option (Fl × En × List D) := x.bind fun x => par3K2 i j l h R env x.1 (g R env x.2)
def parK2 (i j : Nat) (env : En) (a : SV) (x : Option (SV × List D)) : Option (Fl × En × List D) := x.bind fun y => if i < env.length ∧ j < env.length ∧ i ≠ j then some (.nx, (env.set i (some a)).set j (some y.1), y.2) else none
def parK1 (i j : Nat) (g : RM) (R : RC) (env : En) (x : Option (SV × List D)) : Option (Fl × En × List D) := x.bind fun x => parK2 i j env x.1 (g R env x.2)
def vshK (x : Option (D × List D)) : Option (SV × List D) := x.map fun x => (.sh x.1, x.2)
def runK (x : Option (Fl × En × List D)) : Option (D × List D) := x.bind fun r => match r.1 with
  | .ret d => some (d, r.2.2)
  | .nx => some (.non, r.2.2)
  | _ => none
def compK (t : Tg) (vs : List Nat) (tt : TM) (f : XM) (R : RC) (env : En) (x : Option (List D × List D)) : Option (List D × List D) := if vs.all (notOwn env) && t.slots.all (fun i => decide (i ∈ vs)) then x.bind fun x => if x.1.length ≤ sizeLine then compL t (tt R) (f R) x.1 (wipeE env vs) x.2 else none else none

/-! ### steps -/
theorem v_c : xC d R env S = some (d, S) := rfl
theorem v_var : xVar i R env S = varK (env[i]?) S := by
  unfold xVar varK
  split <;> rename_i h <;> simp [h]
theorem v_varK : varK (some (some (.sh d))) S = some (d, S) := rfl
theorem v_bin : xBin o f g R env S = binK1 o g R env (f R env S) := rfl
theorem v_binK1 : binK1 o g R env (some (a, S)) = binK2 o a (g R env S) := rfl
theorem v_binK2 : binK2 o a (some (b, S)) = pairK (o a b) S := by
  unfold binK2 pairK
  cases h : o a b <;> simp [h]
theorem v_pairK : pairK (some d) S = some (d, S) := rfl
theorem v_un {o : D → Option D} : xUn o f R env S = unK o (f R env S) := rfl
theorem v_unK {o : D → Option D} : unK o (some (a, S)) = pairK (o a) S := by
  unfold unK pairK
  cases h : o a <;> simp [h]
theorem v_app {o : List D → Option D} : xApp o as R env S = appK o (as R env S) := rfl
theorem v_appK {o : List D → Option D} : appK o (some (ds, S)) = pairK (o ds) S := by
  unfold appK pairK
  cases h : o ds <;> simp [h]
theorem v_call {x : Str} : xCall x as R env S = callK x R (as R env S) := rfl
theorem v_callK {x : Str} : callK x R (some (ds, S)) = R x ds S := rfl
theorem v_nil : aNil R env S = some ([], S) := rfl
theorem v_cons : aCons f as R env S = consK1 as R env (f R env S) := rfl
theorem v_consK1 : consK1 as R env (some (a, S)) = consK2 a (as R env S) := rfl
theorem v_consK2 : consK2 a (some (ds, S)) = some (a :: ds, S) := rfl
theorem sz1000 {n : Nat} (h : n ≤ 1000) : n ≤ sizeLine := Nat.le_trans h (by decide)
theorem v_tup : xTup as R env S = tupK (as R env S) := rfl
theorem v_tupK (h : ds.length ≤ 1000) : tupK (some (ds, S)) = some (.tup ds, S) := if_pos (sz1000 h)
theorem v_lst {l : LM} : xLst l R env S = lstK (l R env S) := rfl
theorem v_lstK : lstK (some (ds, S)) = some (.lst ds, S) := rfl
theorem v_disp : lDisp as R env S = dispK (as R env S) := rfl
theorem v_dispK (h : ds.length ≤ 1000) : dispK (some (ds, S)) = some (ds, S) := if_pos (sz1000 h)
theorem v_ix : xIx f g R env S = ixK1 g R env (f R env S) := rfl
theorem v_ixK1 : ixK1 g R env (some (a, S)) = ixK2 a (g R env S) := rfl
theorem v_ixP {i : Int} : ixK2 .pool (some (.int i, S)) = pairK (atI S i) S := by
  unfold ixK2 pairK
  cases h : atI S i <;> simp [h]
theorem v_ixT {i : Int} : ixK2 (.tup ds) (some (.int i, S)) = pairK (atI ds i) S := by
  show (atI ds i).map _ = _
  unfold pairK
  cases h : atI ds i <;> simp [h]
theorem v_ixL {i : Int} : ixK2 (.lst ds) (some (.int i, S)) = pairK (atI ds i) S := by
  show (atI ds i).map _ = _
  unfold pairK
  cases h : atI ds i <;> simp [h]
theorem at0 {α : Type} {x : α} {l : List α} : atI (x :: l) 0 = some x := by
  unfold atI ixN
  simp
theorem at1 {α : Type} {x y : α} {l : List α} : atI (x :: y :: l) 1 = some y := by
  unfold atI ixN
  simp
  rw [if_pos (by omega)]
  rfl
theorem at2 {α : Type} {x y z : α} {l : List α} : atI (x :: y :: z :: l) 2 = some z := by
  unfold atI ixN
  simp
  rw [if_pos (by omega)]
  rfl
theorem at3 {α : Type} {x y z w : α} {l : List α} : atI (x :: y :: z :: w :: l) 3 = some w := by
  unfold atI ixN
  simp
  rw [if_pos (by omega)]
  rfl
theorem at4 {α : Type} {x y z w v : α} {l : List α} : atI (x :: y :: z :: w :: v :: l) 4 = some v := by
  unfold atI ixN
  simp
  rw [if_pos (by omega)]
  rfl
theorem v_bl : mBl f R env S = blK (f R env S) := rfl
theorem v_blK {b : Bool} : blK (some (.bl b, S)) = some (b, S) := rfl
theorem v_tru : mTru f R env S = truK (f R env S) := rfl
theorem v_truK {b : Bool} : truK (some (.bl b, S)) = some (b, S) := rfl
theorem v_truN : truK (some (.non, S)) = some (false, S) := rfl
theorem v_mnot : mNot t R env S = notK (t R env S) := rfl
theorem v_notK {b : Bool} : notK (some (b, S)) = some (!b, S) := rfl
theorem v_mand : mAnd t u R env S = andK u R env (t R env S) := rfl
theorem v_andT : andK u R env (some (true, S)) = u R env S := rfl
theorem v_andF : andK u R env (some (false, S)) = some (false, S) := rfl
theorem v_mor : mOr t u R env S = orK u R env (t R env S) := rfl
theorem v_orT : orK u R env (some (true, S)) = some (true, S) := rfl
theorem v_orF : orK u R env (some (false, S)) = u R env S := rfl
theorem v_yes : mYes R env S = some (true, S) := rfl
theorem v_xand : xAnd f g R env S = xandK g R env (f R env S) := rfl
theorem v_xandT : xandK g R env (some (.bl true, S)) = g R env S := rfl
theorem v_xandF : xandK g R env (some (.bl false, S)) = some (.bl false, S) := rfl
theorem v_xor : xOr f g R env S = xorK g R env (f R env S) := rfl
theorem v_xorT : xorK g R env (some (.bl true, S)) = some (.bl true, S) := rfl
theorem v_xorF : xorK g R env (some (.bl false, S)) = g R env S := rfl
theorem v_xnot : xNot f R env S = xnotK (f R env S) := rfl
theorem v_xnotK {b : Bool} : xnotK (some (.bl b, S)) = some (.bl (!b), S) := rfl
theorem v_xif : xIf t f g R env S = xifK f g R env (t R env S) := rfl
theorem v_xifT : xifK f g R env (some (true, S)) = f R env S := rfl
theorem v_xifF : xifK f g R env (some (false, S)) = g R env S := rfl
theorem v_ch : xChain o o' f g h R env S = chK1 o o' g h R env (f R env S) := by
  unfold xChain chK1 chK2 chK3 chK4
  rfl
theorem v_chK1 : chK1 o o' g h R env (some (a, S)) = chK2 o o' h R env a (g R env S) := rfl
theorem v_chK2 : chK2 o o' h R env a (some (b, S)) = chK3 o' h R env b S (o a b) := rfl
theorem v_chT : chK3 o' h R env b S (some (.bl true)) = chK4 o' b (h R env S) := rfl
theorem v_chF : chK3 o' h R env b S (some (.bl false)) = some (.bl false, S) := rfl
theorem v_chK4 : chK4 o' b (some (d, S)) = pairK (o' b d) S := by
  unfold chK4 pairK
  cases h : o' b d <;> simp [h]
theorem v_sli {lo hi : OM} : xSli f lo hi R env S = sliK1 lo hi R env (f R env S) := rfl
theorem v_sliK1 {lo hi : OM} : sliK1 lo hi R env (some (a, S)) = sliK2 hi R env a (lo R env S) := rfl
theorem v_sliK2 {hi : OM} {l : Option Int} : sliK2 hi R env a (some (l, S)) = sliK3 a l (hi R env S) := rfl
theorem v_sliT {l h : Option Int} : sliK3 (.tup ds) l (some (h, S)) = some (.tup (cutD ds l h), S) := rfl
theorem v_sliL {l h : Option Int} : sliK3 (.lst ds) l (some (h, S)) = some (.lst (cutD ds l h), S) := rfl
theorem v_onone : oNone R env S = some (none, S) := rfl
theorem v_osome : oSome f R env S = osoK (f R env S) := rfl
theorem v_osoK {i : Int} : osoK (some (.int i, S)) = some (some i, S) := rfl
theorem v_iof : iOf f R env S = iofK (f R env S) := rfl
theorem v_iofT : iofK (some (.tup ds, S)) = some (ds, S) := rfl
theorem v_iofL : iofK (some (.lst ds, S)) = some (ds, S) := rfl
theorem v_iarg {o : List D → Option (List D)} : iArg o as R env S = iargK o (as R env S) := rfl
theorem rng1_of {n : Int} (h0 : -(2 ^ 62) ≤ n) (h : n < 2 ^ 62) : rng1 [.int n] = some (irs 0 n.toNat) := if_pos (decide_eq_true ⟨h0, h⟩)
theorem v_iargK {o : List D → Option (List D)} {es : List D} (h : o ds = some es) : iargK o (some (ds, S)) = some (es, S) := by
  unfold iargK
  simp [h]
theorem v_snil : sNil R env S = some (.nx, env, S) := rfl
theorem v_seq : sSeq p q R env S = seqK q R (p R env S) := rfl
theorem v_seqN : seqK q R (some (.nx, env, S)) = q R env S := rfl
theorem v_seqR : seqK q R (some (.ret d, env, S)) = some (.ret d, env, S) := rfl
theorem v_seqB : seqK q R (some (.bk, env, S)) = some (.bk, env, S) := rfl
theorem v_seqC : seqK q R (some (.ct, env, S)) = some (.ct, env, S) := rfl
theorem v_sif : sIf t p q R env S = ifK p q R env (t R env S) := rfl
theorem v_ifT : ifK p q R env (some (true, S)) = p R env S := rfl
theorem v_ifF : ifK p q R env (some (false, S)) = q R env S := rfl
theorem v_ret : sRet f R env S = retK env (f R env S) := rfl
theorem v_retK : retK env (some (d, S)) = some (.ret d, env, S) := rfl
theorem v_asg {t : Tg} : sAsg t f R env S = asgK t env (f R env S) := rfl
theorem v_asgN : asgK (.name i) env (some (d, S)) = some (.nx, env.set i (some (.sh d)), S) := rfl
theorem v_asgT {is : List Nat} (h : ds.length = is.length) : asgK (.tup is) env (some (.tup ds, S)) = some (.nx, putAll is ds env, S) := by
  unfold asgK putT
  simp [h]
theorem v_put0 {env : En} : putAll [] [] env = env := rfl
theorem v_put1 {is : List Nat} : putAll (i :: is) (d :: ds) env = putAll is ds (env.set i (some (.sh d))) := rfl
theorem v_bk : sBk R env S = some (.bk, env, S) := rfl
theorem v_ct : sCt R env S = some (.ct, env, S) := rfl
theorem v_pool {fo fi fv : XM} : sPool fo fi fv R env S = poolK1 fo fi R env (fv R env S) := by
  unfold sPool poolK1 poolK2 poolK3
  rfl
theorem v_poolK1 {fo fi : XM} : poolK1 fo fi R env (some (a, S)) = poolK2 fi R env a (fo R env S) := rfl
theorem v_poolK2 {fi : XM} : poolK2 fi R env a (some (b, S)) = poolK3 env a b (fi R env S) := rfl
theorem v_pool1 {x0 x1 x2 x3 x4 : D} : poolK3 env a .pool (some (.int 1, [x0, x1, x2, x3, x4])) = some (.nx, env, [x0, a, x2, x3, x4]) := by rfl
theorem v_pool2 {x0 x1 x2 x3 x4 : D} : poolK3 env a .pool (some (.int 2, [x0, x1, x2, x3, x4])) = some (.nx, env, [x0, x1, a, x3, x4]) := by rfl
theorem v_pool3 {x0 x1 x2 x3 x4 : D} : poolK3 env a .pool (some (.int 3, [x0, x1, x2, x3, x4])) = some (.nx, env, [x0, x1, x2, a, x4]) := by rfl
theorem v_for {it : IM} {t : Tg} : sFor it t q R env S = forK t q R env (it R env S) := rfl
theorem v_forK {t : Tg} : forK t q R env (some (ds, S)) = forL t (q R) ds env S := rfl
theorem v_for0 {t : Tg} {b : En → List D → Option (Fl × En × List D)} : forL t b [] env S = some (.nx, env, S) := rfl
theorem v_for1 {t : Tg} {b : En → List D → Option (Fl × En × List D)} : forL t b (d :: ds) env S = forK1 t b ds S (putT t d env) := rfl
theorem v_putN : putT (.name i) d env = some (env.set i (some (.sh d))) := rfl
theorem v_forK1 {t : Tg} {b : En → List D → Option (Fl × En × List D)} : forK1 t b ds S (some e1) = forK2 t b ds (b e1 S) := rfl
theorem v_forN {t : Tg} {b : En → List D → Option (Fl × En × List D)} : forK2 t b ds (some (.nx, e1, S)) = forL t b ds e1 S := rfl
theorem v_forC {t : Tg} {b : En → List D → Option (Fl × En × List D)} : forK2 t b ds (some (.ct, e1, S)) = forL t b ds e1 S := rfl
theorem v_forB {t : Tg} {b : En → List D → Option (Fl × En × List D)} : forK2 t b ds (some (.bk, e1, S)) = some (.nx, e1, S) := rfl
theorem v_forR {t : Tg} {b : En → List D → Option (Fl × En × List D)} : forK2 t b ds (some (.ret d, e1, S)) = some (.ret d, e1, S) := rfl
theorem v_par3 {i j l : Nat} : sPar3 i j l f g h R env S = par3K1 i j l g h R env (f R env S) := rfl
theorem v_par3K1 {i j l : Nat} : par3K1 i j l g h R env (some (a, S)) = par3K2 i j l h R env a (g R env S) := rfl
theorem v_par3K2 {i j l : Nat} : par3K2 i j l h R env a (some (b, S)) = par3K3 i j l env a b (h R env S) := rfl
theorem v_par3K3 {i j l : Nat} : par3K3 i j l env a b (some (d, S)) = some (.nx, ((env.set i (some (.sh a))).set j (some (.sh b))).set l (some (.sh d)), S) := rfl
theorem v_par {f g : RM} : sPar i j f g R env S = parK1 i j g R env (f R env S) := rfl
theorem v_parK1 {g : RM} {x : SV} : parK1 i j g R env (some (x, S)) = parK2 i j env x (g R env S) := rfl
theorem v_parK2 {x y : SV} (h : i < env.length ∧ j < env.length ∧ i ≠ j) : parK2 i j env x (some (y, S)) = some (.nx, (env.set i (some x)).set j (some y), S) := if_pos h
theorem v_vsh : vSh f R env S = vshK (f R env S) := rfl
theorem v_vshK : vshK (some (d, S)) = some (.sh d, S) := rfl
theorem v_run {n : Nat} {f : En → List D → Option (Fl × En × List D)} : runB n f ds S = runK (f (startE n ds) S) := rfl
theorem v_runR : runK (some (.ret d, env, S)) = some (d, S) := rfl
theorem v_runN : runK (some (.nx, env, S)) = some (.non, S) := rfl
theorem v_comp {it : IM} {t : Tg} {vs : List Nat} : lComp it t vs u f R env S = compK t vs u f R env (it R env S) := by
  unfold lComp compK
  split
  · rfl
  · rfl
theorem v_compK {t : Tg} {vs : List Nat} (h1 : (vs.all (notOwn env) && t.slots.all (fun i => decide (i ∈ vs))) = true) (h2 : ds.length ≤ 1000) : compK t vs u f R env (some (ds, S)) = compL t (u R) (f R) ds (wipeE env vs) S := by
  unfold compK
  rw [if_pos h1]
  exact if_pos (sz1000 h2)
/-- a comprehension that takes every item -/
theorem comp_map {t : Tg} {tt : En → List D → Option (Bool × List D)} {f : En → List D → Option (D × List D)} (G : D → D) : ∀ (ds : List D), (∀ d ∈ ds, ∃ e, putT t d env = some e ∧ tt e S = some (true, S) ∧ f e S = some (G d, S)) → compL t tt f ds env S = some (ds.map G, S)
  | [], _ => rfl
  | d :: ds, h => by
    obtain ⟨e, h1, h2, h3⟩ := h d List.mem_cons_self
    have ih := comp_map G ds fun x hx => h x (List.mem_cons_of_mem _ hx)
    show (putT t d env).bind _ = _
    simp only [h1, h2, h3, ih, Option.bind_some, Option.map_some, if_true]
    rfl
theorem comp_mapT {α : Type} {t : Tg} {tt : En → List D → Option (Bool × List D)} {f : En → List D → Option (D × List D)} (T G : α → D) : ∀ (l : List α), (∀ x ∈ l, ∃ e, putT t (T x) env = some e ∧ tt e S = some (true, S) ∧ f e S = some (G x, S)) → compL t tt f (l.map T) env S = some (l.map G, S)
  | [], _ => rfl
  | d :: ds, h => by
    obtain ⟨e, h1, h2, h3⟩ := h d List.mem_cons_self
    have ih := comp_mapT T G ds fun x hx => h x (List.mem_cons_of_mem _ hx)
    show (putT t (T d) env).bind _ = _
    simp only [h1, h2, h3, Option.bind_some, Option.map_some, if_true]
    rw [ih]
    rfl
theorem comp_filterT {α : Type} {t : Tg} {tt : En → List D → Option (Bool × List D)} {f : En → List D → Option (D × List D)} (T G : α → D) (P : α → Bool) : ∀ (l : List α), (∀ x ∈ l, ∃ e, putT t (T x) env = some e ∧ tt e S = some (P x, S) ∧ (P x = true → f e S = some (G x, S))) → compL t tt f (l.map T) env S = some ((l.filter P).map G, S)
  | [], _ => rfl
  | d :: ds, h => by
    obtain ⟨e, h1, h2, h3⟩ := h d List.mem_cons_self
    have ih := comp_filterT T G P ds fun x hx => h x (List.mem_cons_of_mem _ hx)
    show (putT t (T d) env).bind _ = _
    by_cases hp : P d = true
    · have h3' := h3 hp
      rw [List.filter_cons_of_pos hp]
      simp only [h1, h2, h3', hp, Option.bind_some, Option.map_some, if_true]
      rw [ih]
      rfl
    · have hp' : P d = false := by simpa using hp
      rw [List.filter_cons_of_neg hp]
      simp only [h1, h2, hp', Option.bind_some]
      exact ih
/-- .. that lets the pool change: every item gives what P says -/
theorem comp_any {α : Type} {t : Tg} {tt : En → List D → Option (Bool × List D)} {f : En → List D → Option (D × List D)} (T : α → D) (I : List D → Prop) (Q : D → Prop) : ∀ (l : List α) (S : List D), I S → (∀ x ∈ l, ∀ S, I S → ∃ e, putT t (T x) env = some e ∧ tt e S = some (true, S) ∧ ∃ d S', f e S = some (d, S') ∧ I S' ∧ Q d) →
    ∃ ds S', compL t tt f (l.map T) env S = some (ds, S') ∧ I S' ∧ ds.length = l.length ∧ ∀ d ∈ ds, Q d
  | [], S, hI, _ => ⟨[], S, rfl, hI, rfl, fun _ h => by cases h⟩
  | x :: xs, S, hI, h => by
    obtain ⟨e, h1, h2, d, S1, h3, h4, h5⟩ := h x List.mem_cons_self S hI
    obtain ⟨ds, S2, g1, g2, g3, g4⟩ := comp_any T I Q xs S1 h4 fun y hy => h y (List.mem_cons_of_mem _ hy)
    refine ⟨d :: ds, S2, ?_, g2, by simp [g3], fun z hz => ?_⟩
    · show (putT t (T x) env).bind _ = _
      simp only [h1, h2, h3, Option.bind_some, Option.map_some, if_true]
      rw [g1]
      rfl
    · rcases List.mem_cons.mp hz with rfl | hz
      · exact h5
      · exact g4 z hz
/-- .. that takes some -/
theorem comp_filter {t : Tg} {tt : En → List D → Option (Bool × List D)} {f : En → List D → Option (D × List D)} (G : D → D) (P : D → Bool) : ∀ (ds : List D), (∀ d ∈ ds, ∃ e, putT t d env = some e ∧ tt e S = some (P d, S) ∧ (P d = true → f e S = some (G d, S))) → compL t tt f ds env S = some ((ds.filter P).map G, S)
  | [], _ => rfl
  | d :: ds, h => by
    obtain ⟨e, h1, h2, h3⟩ := h d List.mem_cons_self
    have ih := comp_filter G P ds fun x hx => h x (List.mem_cons_of_mem _ hx)
    show (putT t d env).bind _ = _
    by_cases hp : P d = true
    · have h3' := h3 hp
      simp only [h1, h2, h3', ih, hp, Option.bind_some, Option.map_some, if_true, List.filter_cons_of_pos]
      rfl
    · have hp' : P d = false := by simpa using hp
      rw [List.filter_cons_of_neg hp]
      simp only [h1, h2, ih, hp', Option.bind_some]
      rfl
end
theorem mulI_r {i j : Int} (h : -(2 ^ 64) < j ∧ j < 2 ^ 64) : mulI i j = some (i * j) := if_pos (.inr h)
theorem modI_ne {i j : Int} (h : j ≠ 0) : modI i j = some (i.fmod j) := if_pos h
theorem divI_of {i j : Int} (h : j ≠ 0) (h2 : j.natAbs < 1073741824) : divI i j = some (i.fdiv j) := if_pos ⟨h, h2⟩
theorem o_add {i j : Int} : addD (.int i) (.int j) = some (.int (i + j)) := rfl
theorem o_sub {i j : Int} : subD (.int i) (.int j) = some (.int (i - j)) := rfl
theorem o_mul {i j : Int} (h : -(2 ^ 64) < j ∧ j < 2 ^ 64) : mulD (.int i) (.int j) = some (.int (i * j)) := by
  show (mulI i j).map _ = _
  rw [mulI_r h]
  rfl
theorem o_mod {i j : Int} (h : j ≠ 0) : modD (.int i) (.int j) = some (.int (i.fmod j)) := by
  show (modI i j).map _ = _
  rw [modI_ne h]
  rfl
theorem o_div {i j : Int} (h : j ≠ 0) (h2 : j.natAbs < 1073741824) : divD (.int i) (.int j) = some (.int (i.fdiv j)) := by
  show (divI i j).map _ = _
  rw [divI_of h h2]
  rfl
theorem o_lt {i j : Int} : ltD (.int i) (.int j) = some (.bl (decide (i < j))) := rfl
theorem o_le {i j : Int} : leD (.int i) (.int j) = some (.bl (decide (i ≤ j))) := rfl
theorem o_gt {i j : Int} : gtD (.int i) (.int j) = some (.bl (decide (j < i))) := rfl
theorem o_ge {i j : Int} : geD (.int i) (.int j) = some (.bl (decide (j ≤ i))) := rfl
theorem o_int {i : Int} : intOf [.int i] = some (.int i) := rfl
theorem o_neg {i : Int} : negD (.int i) = some (.int (-i)) := rfl
theorem o_lenL {ds : List D} : lenD [.lst ds] = some (.int ds.length) := rfl
theorem o_lenT {ds : List D} : lenD [.tup ds] = some (.int ds.length) := rfl
theorem o_eqI {i j : Int} : eqD (.int i) (.int j) = some (.bl (decide (i = j))) := rfl
theorem o_eqS {i j : Str} : eqD (.str i) (.str j) = some (.bl (decide (i = j))) := rfl
theorem o_eqB {i j : Bool} : eqD (.bl i) (.bl j) = some (.bl (decide (i = j))) := rfl
theorem o_neI {i j : Int} : neD (.int i) (.int j) = some (.bl (!decide (i = j))) := rfl
theorem o_neS {i j : Str} : neD (.str i) (.str j) = some (.bl (!decide (i = j))) := rfl
theorem o_neB {i j : Bool} : neD (.bl i) (.bl j) = some (.bl (!decide (i = j))) := rfl
theorem o_tupL {ds : List D} : tupOf [.lst ds] = some (.tup ds) := rfl
theorem o_tupT {ds : List D} : tupOf [.tup ds] = some (.tup ds) := rfl
theorem o_addL {xs ys : List D} (h : xs.length + ys.length ≤ 1000) : addD (.lst xs) (.lst ys) = some (.lst (xs ++ ys)) := if_pos (sz1000 h)
theorem o_addT {xs ys : List D} (h : xs.length + ys.length ≤ 1000) : addD (.tup xs) (.tup ys) = some (.tup (xs ++ ys)) := if_pos (sz1000 h)
theorem w_t1_true : inD (.str "true") (.tup [.str "true", .str "is", .str "same"]) = some (.bl true) := rfl
theorem w_t1_is : inD (.str "is") (.tup [.str "true", .str "is", .str "same"]) = some (.bl true) := rfl
theorem w_t1_same : inD (.str "same") (.tup [.str "true", .str "is", .str "same"]) = some (.bl true) := rfl
theorem w_t1_not : inD (.str "not") (.tup [.str "true", .str "is", .str "same"]) = some (.bl false) := rfl
theorem w_t1_both : inD (.str "both") (.tup [.str "true", .str "is", .str "same"]) = some (.bl false) := rfl
theorem w_t1_either : inD (.str "either") (.tup [.str "true", .str "is", .str "same"]) = some (.bl false) := rfl
theorem w_t1_some : inD (.str "some") (.tup [.str "true", .str "is", .str "same"]) = some (.bl false) := rfl
theorem w_t1_each : inD (.str "each") (.tup [.str "true", .str "is", .str "same"]) = some (.bl false) := rfl
theorem w_t1_many : inD (.str "many") (.tup [.str "true", .str "is", .str "same"]) = some (.bl false) := rfl
theorem w_t2_true : inD (.str "true") (.tup [.str "not", .str "both", .str "either"]) = some (.bl false) := rfl
theorem w_t2_is : inD (.str "is") (.tup [.str "not", .str "both", .str "either"]) = some (.bl false) := rfl
theorem w_t2_same : inD (.str "same") (.tup [.str "not", .str "both", .str "either"]) = some (.bl false) := rfl
theorem w_t2_not : inD (.str "not") (.tup [.str "not", .str "both", .str "either"]) = some (.bl true) := rfl
theorem w_t2_both : inD (.str "both") (.tup [.str "not", .str "both", .str "either"]) = some (.bl true) := rfl
theorem w_t2_either : inD (.str "either") (.tup [.str "not", .str "both", .str "either"]) = some (.bl true) := rfl
theorem w_t2_some : inD (.str "some") (.tup [.str "not", .str "both", .str "either"]) = some (.bl false) := rfl
theorem w_t2_each : inD (.str "each") (.tup [.str "not", .str "both", .str "either"]) = some (.bl false) := rfl
theorem w_t2_many : inD (.str "many") (.tup [.str "not", .str "both", .str "either"]) = some (.bl false) := rfl
theorem w_t3_true : inD (.str "true") (.tup [.str "some", .str "each"]) = some (.bl false) := rfl
theorem w_t3_is : inD (.str "is") (.tup [.str "some", .str "each"]) = some (.bl false) := rfl
theorem w_t3_same : inD (.str "same") (.tup [.str "some", .str "each"]) = some (.bl false) := rfl
theorem w_t3_not : inD (.str "not") (.tup [.str "some", .str "each"]) = some (.bl false) := rfl
theorem w_t3_both : inD (.str "both") (.tup [.str "some", .str "each"]) = some (.bl false) := rfl
theorem w_t3_either : inD (.str "either") (.tup [.str "some", .str "each"]) = some (.bl false) := rfl
theorem w_t3_some : inD (.str "some") (.tup [.str "some", .str "each"]) = some (.bl true) := rfl
theorem w_t3_each : inD (.str "each") (.tup [.str "some", .str "each"]) = some (.bl true) := rfl
theorem w_t3_many : inD (.str "many") (.tup [.str "some", .str "each"]) = some (.bl false) := rfl
theorem w_t4_true : inD (.str "true") (.tup [.str "both", .str "either"]) = some (.bl false) := rfl
theorem w_t4_is : inD (.str "is") (.tup [.str "both", .str "either"]) = some (.bl false) := rfl
theorem w_t4_same : inD (.str "same") (.tup [.str "both", .str "either"]) = some (.bl false) := rfl
theorem w_t4_not : inD (.str "not") (.tup [.str "both", .str "either"]) = some (.bl false) := rfl
theorem w_t4_both : inD (.str "both") (.tup [.str "both", .str "either"]) = some (.bl true) := rfl
theorem w_t4_either : inD (.str "either") (.tup [.str "both", .str "either"]) = some (.bl true) := rfl
theorem w_t4_some : inD (.str "some") (.tup [.str "both", .str "either"]) = some (.bl false) := rfl
theorem w_t4_each : inD (.str "each") (.tup [.str "both", .str "either"]) = some (.bl false) := rfl
theorem w_t4_many : inD (.str "many") (.tup [.str "both", .str "either"]) = some (.bl false) := rfl
theorem w_t5_true : inD (.str "true") (.tup [.str "is", .str "same"]) = some (.bl false) := rfl
theorem w_t5_is : inD (.str "is") (.tup [.str "is", .str "same"]) = some (.bl true) := rfl
theorem w_t5_same : inD (.str "same") (.tup [.str "is", .str "same"]) = some (.bl true) := rfl
theorem w_t5_not : inD (.str "not") (.tup [.str "is", .str "same"]) = some (.bl false) := rfl
theorem w_t5_both : inD (.str "both") (.tup [.str "is", .str "same"]) = some (.bl false) := rfl
theorem w_t5_either : inD (.str "either") (.tup [.str "is", .str "same"]) = some (.bl false) := rfl
theorem w_t5_some : inD (.str "some") (.tup [.str "is", .str "same"]) = some (.bl false) := rfl
theorem w_t5_each : inD (.str "each") (.tup [.str "is", .str "same"]) = some (.bl false) := rfl
theorem w_t5_many : inD (.str "many") (.tup [.str "is", .str "same"]) = some (.bl false) := rfl
theorem w_q_true_true : ((("true" : Str) = ("true" : Str)) = True) := by simp
theorem w_q_true_is : ((("true" : Str) = ("is" : Str)) = False) := by exact eq_false (by decide)
theorem w_q_true_same : ((("true" : Str) = ("same" : Str)) = False) := by exact eq_false (by decide)
theorem w_q_true_not : ((("true" : Str) = ("not" : Str)) = False) := by exact eq_false (by decide)
theorem w_q_true_both : ((("true" : Str) = ("both" : Str)) = False) := by exact eq_false (by decide)
theorem w_q_true_either : ((("true" : Str) = ("either" : Str)) = False) := by exact eq_false (by decide)
theorem w_q_true_some : ((("true" : Str) = ("some" : Str)) = False) := by exact eq_false (by decide)
theorem w_q_true_each : ((("true" : Str) = ("each" : Str)) = False) := by exact eq_false (by decide)
theorem w_q_true_many : ((("true" : Str) = ("many" : Str)) = False) := by exact eq_false (by decide)
theorem w_q_is_true : ((("is" : Str) = ("true" : Str)) = False) := by exact eq_false (by decide)
theorem w_q_is_is : ((("is" : Str) = ("is" : Str)) = True) := by simp
theorem w_q_is_same : ((("is" : Str) = ("same" : Str)) = False) := by exact eq_false (by decide)
theorem w_q_is_not : ((("is" : Str) = ("not" : Str)) = False) := by exact eq_false (by decide)
theorem w_q_is_both : ((("is" : Str) = ("both" : Str)) = False) := by exact eq_false (by decide)
theorem w_q_is_either : ((("is" : Str) = ("either" : Str)) = False) := by exact eq_false (by decide)
theorem w_q_is_some : ((("is" : Str) = ("some" : Str)) = False) := by exact eq_false (by decide)
theorem w_q_is_each : ((("is" : Str) = ("each" : Str)) = False) := by exact eq_false (by decide)
theorem w_q_is_many : ((("is" : Str) = ("many" : Str)) = False) := by exact eq_false (by decide)
theorem w_q_same_true : ((("same" : Str) = ("true" : Str)) = False) := by exact eq_false (by decide)
theorem w_q_same_is : ((("same" : Str) = ("is" : Str)) = False) := by exact eq_false (by decide)
theorem w_q_same_same : ((("same" : Str) = ("same" : Str)) = True) := by simp
theorem w_q_same_not : ((("same" : Str) = ("not" : Str)) = False) := by exact eq_false (by decide)
theorem w_q_same_both : ((("same" : Str) = ("both" : Str)) = False) := by exact eq_false (by decide)
theorem w_q_same_either : ((("same" : Str) = ("either" : Str)) = False) := by exact eq_false (by decide)
theorem w_q_same_some : ((("same" : Str) = ("some" : Str)) = False) := by exact eq_false (by decide)
theorem w_q_same_each : ((("same" : Str) = ("each" : Str)) = False) := by exact eq_false (by decide)
theorem w_q_same_many : ((("same" : Str) = ("many" : Str)) = False) := by exact eq_false (by decide)
theorem w_q_not_true : ((("not" : Str) = ("true" : Str)) = False) := by exact eq_false (by decide)
theorem w_q_not_is : ((("not" : Str) = ("is" : Str)) = False) := by exact eq_false (by decide)
theorem w_q_not_same : ((("not" : Str) = ("same" : Str)) = False) := by exact eq_false (by decide)
theorem w_q_not_not : ((("not" : Str) = ("not" : Str)) = True) := by simp
theorem w_q_not_both : ((("not" : Str) = ("both" : Str)) = False) := by exact eq_false (by decide)
theorem w_q_not_either : ((("not" : Str) = ("either" : Str)) = False) := by exact eq_false (by decide)
theorem w_q_not_some : ((("not" : Str) = ("some" : Str)) = False) := by exact eq_false (by decide)
theorem w_q_not_each : ((("not" : Str) = ("each" : Str)) = False) := by exact eq_false (by decide)
theorem w_q_not_many : ((("not" : Str) = ("many" : Str)) = False) := by exact eq_false (by decide)
theorem w_q_both_true : ((("both" : Str) = ("true" : Str)) = False) := by exact eq_false (by decide)
theorem w_q_both_is : ((("both" : Str) = ("is" : Str)) = False) := by exact eq_false (by decide)
theorem w_q_both_same : ((("both" : Str) = ("same" : Str)) = False) := by exact eq_false (by decide)
theorem w_q_both_not : ((("both" : Str) = ("not" : Str)) = False) := by exact eq_false (by decide)
theorem w_q_both_both : ((("both" : Str) = ("both" : Str)) = True) := by simp
theorem w_q_both_either : ((("both" : Str) = ("either" : Str)) = False) := by exact eq_false (by decide)
theorem w_q_both_some : ((("both" : Str) = ("some" : Str)) = False) := by exact eq_false (by decide)
theorem w_q_both_each : ((("both" : Str) = ("each" : Str)) = False) := by exact eq_false (by decide)
theorem w_q_both_many : ((("both" : Str) = ("many" : Str)) = False) := by exact eq_false (by decide)
theorem w_q_either_true : ((("either" : Str) = ("true" : Str)) = False) := by exact eq_false (by decide)
theorem w_q_either_is : ((("either" : Str) = ("is" : Str)) = False) := by exact eq_false (by decide)
theorem w_q_either_same : ((("either" : Str) = ("same" : Str)) = False) := by exact eq_false (by decide)
theorem w_q_either_not : ((("either" : Str) = ("not" : Str)) = False) := by exact eq_false (by decide)
theorem w_q_either_both : ((("either" : Str) = ("both" : Str)) = False) := by exact eq_false (by decide)
theorem w_q_either_either : ((("either" : Str) = ("either" : Str)) = True) := by simp
theorem w_q_either_some : ((("either" : Str) = ("some" : Str)) = False) := by exact eq_false (by decide)
theorem w_q_either_each : ((("either" : Str) = ("each" : Str)) = False) := by exact eq_false (by decide)
theorem w_q_either_many : ((("either" : Str) = ("many" : Str)) = False) := by exact eq_false (by decide)
theorem w_q_some_true : ((("some" : Str) = ("true" : Str)) = False) := by exact eq_false (by decide)
theorem w_q_some_is : ((("some" : Str) = ("is" : Str)) = False) := by exact eq_false (by decide)
theorem w_q_some_same : ((("some" : Str) = ("same" : Str)) = False) := by exact eq_false (by decide)
theorem w_q_some_not : ((("some" : Str) = ("not" : Str)) = False) := by exact eq_false (by decide)
theorem w_q_some_both : ((("some" : Str) = ("both" : Str)) = False) := by exact eq_false (by decide)
theorem w_q_some_either : ((("some" : Str) = ("either" : Str)) = False) := by exact eq_false (by decide)
theorem w_q_some_some : ((("some" : Str) = ("some" : Str)) = True) := by simp
theorem w_q_some_each : ((("some" : Str) = ("each" : Str)) = False) := by exact eq_false (by decide)
theorem w_q_some_many : ((("some" : Str) = ("many" : Str)) = False) := by exact eq_false (by decide)
theorem w_q_each_true : ((("each" : Str) = ("true" : Str)) = False) := by exact eq_false (by decide)
theorem w_q_each_is : ((("each" : Str) = ("is" : Str)) = False) := by exact eq_false (by decide)
theorem w_q_each_same : ((("each" : Str) = ("same" : Str)) = False) := by exact eq_false (by decide)
theorem w_q_each_not : ((("each" : Str) = ("not" : Str)) = False) := by exact eq_false (by decide)
theorem w_q_each_both : ((("each" : Str) = ("both" : Str)) = False) := by exact eq_false (by decide)
theorem w_q_each_either : ((("each" : Str) = ("either" : Str)) = False) := by exact eq_false (by decide)
theorem w_q_each_some : ((("each" : Str) = ("some" : Str)) = False) := by exact eq_false (by decide)
theorem w_q_each_each : ((("each" : Str) = ("each" : Str)) = True) := by simp
theorem w_q_each_many : ((("each" : Str) = ("many" : Str)) = False) := by exact eq_false (by decide)
theorem w_q_many_true : ((("many" : Str) = ("true" : Str)) = False) := by exact eq_false (by decide)
theorem w_q_many_is : ((("many" : Str) = ("is" : Str)) = False) := by exact eq_false (by decide)
theorem w_q_many_same : ((("many" : Str) = ("same" : Str)) = False) := by exact eq_false (by decide)
theorem w_q_many_not : ((("many" : Str) = ("not" : Str)) = False) := by exact eq_false (by decide)
theorem w_q_many_both : ((("many" : Str) = ("both" : Str)) = False) := by exact eq_false (by decide)
theorem w_q_many_either : ((("many" : Str) = ("either" : Str)) = False) := by exact eq_false (by decide)
theorem w_q_many_some : ((("many" : Str) = ("some" : Str)) = False) := by exact eq_false (by decide)
theorem w_q_many_each : ((("many" : Str) = ("each" : Str)) = False) := by exact eq_false (by decide)
theorem w_q_many_many : ((("many" : Str) = ("many" : Str)) = True) := by simp
theorem i_non_int  : isiD [.non, .ty "int"] = some (.bl false) := rfl
theorem i_non_str  : isiD [.non, .ty "str"] = some (.bl false) := rfl
theorem i_non_bool  : isiD [.non, .ty "bool"] = some (.bl false) := rfl
theorem i_non_tuple  : isiD [.non, .ty "tuple"] = some (.bl false) := rfl
theorem i_non_list  : isiD [.non, .ty "list"] = some (.bl false) := rfl
theorem n_non  : isND (.non) .non = some (.bl true) := rfl
theorem nn_non  : isNND (.non) .non = some (.bl false) := rfl
theorem i_bl_int {b : Bool} : isiD [.bl b, .ty "int"] = some (.bl true) := rfl
theorem i_bl_str {b : Bool} : isiD [.bl b, .ty "str"] = some (.bl false) := rfl
theorem i_bl_bool {b : Bool} : isiD [.bl b, .ty "bool"] = some (.bl true) := rfl
theorem i_bl_tuple {b : Bool} : isiD [.bl b, .ty "tuple"] = some (.bl false) := rfl
theorem i_bl_list {b : Bool} : isiD [.bl b, .ty "list"] = some (.bl false) := rfl
theorem n_bl {b : Bool} : isND (.bl b) .non = some (.bl false) := rfl
theorem nn_bl {b : Bool} : isNND (.bl b) .non = some (.bl true) := rfl
theorem i_int_int {i : Int} : isiD [.int i, .ty "int"] = some (.bl true) := rfl
theorem i_int_str {i : Int} : isiD [.int i, .ty "str"] = some (.bl false) := rfl
theorem i_int_bool {i : Int} : isiD [.int i, .ty "bool"] = some (.bl false) := rfl
theorem i_int_tuple {i : Int} : isiD [.int i, .ty "tuple"] = some (.bl false) := rfl
theorem i_int_list {i : Int} : isiD [.int i, .ty "list"] = some (.bl false) := rfl
theorem n_int {i : Int} : isND (.int i) .non = some (.bl false) := rfl
theorem nn_int {i : Int} : isNND (.int i) .non = some (.bl true) := rfl
theorem i_str_int {x : Str} : isiD [.str x, .ty "int"] = some (.bl false) := rfl
theorem i_str_str {x : Str} : isiD [.str x, .ty "str"] = some (.bl true) := rfl
theorem i_str_bool {x : Str} : isiD [.str x, .ty "bool"] = some (.bl false) := rfl
theorem i_str_tuple {x : Str} : isiD [.str x, .ty "tuple"] = some (.bl false) := rfl
theorem i_str_list {x : Str} : isiD [.str x, .ty "list"] = some (.bl false) := rfl
theorem n_str {x : Str} : isND (.str x) .non = some (.bl false) := rfl
theorem nn_str {x : Str} : isNND (.str x) .non = some (.bl true) := rfl
theorem i_tup_int {xs : List D} : isiD [.tup xs, .ty "int"] = some (.bl false) := rfl
theorem i_tup_str {xs : List D} : isiD [.tup xs, .ty "str"] = some (.bl false) := rfl
theorem i_tup_bool {xs : List D} : isiD [.tup xs, .ty "bool"] = some (.bl false) := rfl
theorem i_tup_tuple {xs : List D} : isiD [.tup xs, .ty "tuple"] = some (.bl true) := rfl
theorem i_tup_list {xs : List D} : isiD [.tup xs, .ty "list"] = some (.bl false) := rfl
theorem n_tup {xs : List D} : isND (.tup xs) .non = some (.bl false) := rfl
theorem nn_tup {xs : List D} : isNND (.tup xs) .non = some (.bl true) := rfl
theorem i_lst_int {xs : List D} : isiD [.lst xs, .ty "int"] = some (.bl false) := rfl
theorem i_lst_str {xs : List D} : isiD [.lst xs, .ty "str"] = some (.bl false) := rfl
theorem i_lst_bool {xs : List D} : isiD [.lst xs, .ty "bool"] = some (.bl false) := rfl
theorem i_lst_tuple {xs : List D} : isiD [.lst xs, .ty "tuple"] = some (.bl false) := rfl
theorem i_lst_list {xs : List D} : isiD [.lst xs, .ty "list"] = some (.bl true) := rfl
theorem n_lst {xs : List D} : isND (.lst xs) .non = some (.bl false) := rfl
theorem nn_lst {xs : List D} : isNND (.lst xs) .non = some (.bl true) := rfl
theorem i_dic_int {ks : List Key} {xs : List D} : isiD [.dic ks xs, .ty "int"] = some (.bl false) := rfl
theorem i_dic_str {ks : List Key} {xs : List D} : isiD [.dic ks xs, .ty "str"] = some (.bl false) := rfl
theorem i_dic_bool {ks : List Key} {xs : List D} : isiD [.dic ks xs, .ty "bool"] = some (.bl false) := rfl
theorem i_dic_tuple {ks : List Key} {xs : List D} : isiD [.dic ks xs, .ty "tuple"] = some (.bl false) := rfl
theorem i_dic_list {ks : List Key} {xs : List D} : isiD [.dic ks xs, .ty "list"] = some (.bl false) := rfl
theorem n_dic {ks : List Key} {xs : List D} : isND (.dic ks xs) .non = some (.bl false) := rfl
theorem nn_dic {ks : List Key} {xs : List D} : isNND (.dic ks xs) .non = some (.bl true) := rfl
end Ip

set_option maxHeartbeats 4000000
namespace Ip
open PySem L2
def topS (i : Nat) : Stmt := PySem.Challenge.pw_kindcounts_k02_ranks_told.main.body.getD i (.Pass ⟨0, 0, 0, 0⟩)
def i_inner_of : DefI := ⟨"inner_of", topS 1, ["formula"], ["formula", "word"]⟩
def i_rank_of : DefI := ⟨"rank_of", topS 2, ["formula"], ["formula", "word", "inner", "part"]⟩
def i_limit_of : DefI := ⟨"limit_of", topS 3, ["formulas"], ["formulas", "formula"]⟩
def i__law_pool : DefI := ⟨"_law_pool", topS 5, ["script"], ["script", "salt", "cell"]⟩
def i__law_spread : DefI := ⟨"_law_spread", topS 6, ["cell"], ["cell", "blended", "whole_sum", "k"]⟩
def i__law_draw : DefI := ⟨"_law_draw", topS 7, ["pool", "many"], ["pool", "many", "cell", "blended", "value"]⟩
def i__law_pick : DefI := ⟨"_law_pick", topS 8, ["pool", "items"], ["pool", "items"]⟩
def i__law_bound : DefI := ⟨"_law_bound", topS 9, ["pool", "names", "kinds", "deep"], ["pool", "names", "kinds", "deep", "name", "inner", "turn"]⟩
def i__law_formula : DefI := ⟨"_law_formula", topS 10, ["pool", "names", "kinds", "deep"], ["pool", "names", "kinds", "deep", "turn", "one"]⟩
def i__law_inner : DefI := ⟨"_law_inner", topS 11, ["formula"], ["formula"]⟩
def i__law_rank : DefI := ⟨"_law_rank", topS 12, ["formula"], ["formula", "inner", "part"]⟩
def i__law_sentence : DefI := ⟨"_law_sentence", topS 13, ["pool", "kinds", "deep"], ["pool", "kinds", "deep", "found"]⟩
def i__law_theory : DefI := ⟨"_law_theory", topS 14, ["pool", "kinds", "many", "deep"], ["pool", "kinds", "many", "deep", "k"]⟩
def i__law_same : DefI := ⟨"_law_same", topS 15, ["actual", "due"], ["actual", "due", "k"]⟩
def i__law_limit : DefI := ⟨"_law_limit", topS 16, ["formulas"], ["formulas", "formula"]⟩
def i_law : DefI := ⟨"law", topS 17, ["script"], ["script", "pool", "kinds", "one", "two", "theory", "formula"]⟩
def G : Prg := ⟨[i_inner_of, i_rank_of, i_limit_of, i__law_spread, i__law_draw, i__law_pick, i__law_bound, i__law_formula, i__law_inner, i__law_rank, i__law_sentence, i__law_theory, i__law_same, i__law_limit], ["bool", "int", "isinstance", "len", "list", "max", "range", "str", "tuple"], []⟩
def s_inner_of_0 : SM := sAsg (.name 1) (xIx (xVar 0) (xC (.int 0)))
def s_inner_of_1 : SM := sIf (mBl (xBin inD (xVar 1) (xTup (aCons (xC (.str "true")) (aCons (xC (.str "is")) (aCons (xC (.str "same")) (aNil))))))) (sSeq (sRet (xTup (aNil))) (sNil)) (sNil)
def s_inner_of_2 : SM := sRet (xIf (mBl (xBin inD (xVar 1) (xTup (aCons (xC (.str "not")) (aCons (xC (.str "both")) (aCons (xC (.str "either")) (aNil))))))) (xSli (xVar 0) (oSome (xC (.int 1))) (oNone)) (xSli (xVar 0) (oSome (xUn negD (xC (.int 1)))) (oNone)))
def b_inner_of : SM := sSeq s_inner_of_0 (sSeq s_inner_of_1 (sSeq s_inner_of_2 (sNil)))
def s_rank_of_0 : SM := sAsg (.name 1) (xIx (xVar 0) (xC (.int 0)))
def s_rank_of_1 : SM := sAsg (.name 2) (xApp maxD (aCons (xBin addD (xLst (lDisp (aCons (xC (.int 0)) (aNil)))) (xLst (lComp (iOf (xCall "inner_of" (aCons (xVar 0) (aNil)))) (.name 3) [3] (mYes) (xCall "rank_of" (aCons (xVar 3) (aNil)))))) (aNil)))
def s_rank_of_2 : SM := sIf (mBl (xBin inD (xVar 1) (xTup (aCons (xC (.str "some")) (aCons (xC (.str "each")) (aNil)))))) (sSeq (sRet (xBin addD (xC (.int 1)) (xVar 2))) (sNil)) (sNil)
def s_rank_of_3 : SM := sRet (xIf (mBl (xBin eqD (xVar 1) (xC (.str "many")))) (xBin addD (xIx (xVar 0) (xC (.int 1))) (xVar 2)) (xVar 2))
def b_rank_of : SM := sSeq s_rank_of_0 (sSeq s_rank_of_1 (sSeq s_rank_of_2 (sSeq s_rank_of_3 (sNil))))
def s_limit_of_0 : SM := sRet (xApp maxD (aCons (xBin addD (xLst (lDisp (aCons (xC (.int 1)) (aNil)))) (xLst (lComp (iOf (xVar 0)) (.name 1) [1] (mYes) (xCall "rank_of" (aCons (xVar 1) (aNil)))))) (aNil)))
def b_limit_of : SM := sSeq s_limit_of_0 (sNil)
def s__law_spread_2_b : SM := sSeq (sAsg (.name 1) (xBin modD (xApp intOf (aCons (xBin addD (xBin addD (xBin mulD (xVar 1) (xC (.int 48271))) (xC (.int 12345))) (xVar 3)) (aNil))) (xC (.int 2147483647)))) (sSeq (sAsg (.name 2) (xBin addD (xBin mulD (xVar 2) (xC (.int 2147483647))) (xVar 1))) (sNil))
def s__law_spread_0 : SM := sAsg (.name 1) (xBin modD (xApp intOf (aCons (xVar 0) (aNil))) (xC (.int 2147483647)))
def s__law_spread_1 : SM := sAsg (.name 2) (xC (.int 1))
def s__law_spread_2 : SM := sFor (iArg rng1 (aCons (xC (.int 4)) (aNil))) (.name 3) s__law_spread_2_b
def s__law_spread_3 : SM := sRet (xVar 2)
def b__law_spread : SM := sSeq s__law_spread_0 (sSeq s__law_spread_1 (sSeq s__law_spread_2 (sSeq s__law_spread_3 (sNil))))
def s__law_draw_0 : SM := sIf (mAnd (mBl (xBin leD (xIx (xVar 0) (xC (.int 2))) (xC (.int 0)))) (mBl (xBin ltD (xIx (xVar 0) (xC (.int 1))) (xApp lenD (aCons (xIx (xVar 0) (xC (.int 0))) (aNil)))))) (sSeq (sAsg (.name 2) (xIx (xIx (xVar 0) (xC (.int 0))) (xIx (xVar 0) (xC (.int 1))))) (sSeq (sPool (xVar 0) (xC (.int 1)) (xBin addD (xIx (xVar 0) (xC (.int 1))) (xC (.int 1)))) (sSeq (sPool (xVar 0) (xC (.int 2)) (xVar 2)) (sSeq (sIf (mBl (xBin ltD (xVar 2) (xC (.int 1000000000000000000)))) (sSeq (sPool (xVar 0) (xC (.int 2)) (xCall "_law_spread" (aCons (xVar 2) (aNil)))) (sNil)) (sNil)) (sNil))))) (sNil)
def s__law_draw_1 : SM := sPool (xVar 0) (xC (.int 3)) (xBin addD (xIx (xVar 0) (xC (.int 3))) (xC (.int 1)))
def s__law_draw_2 : SM := sIf (mBl (xBin leD (xIx (xVar 0) (xC (.int 2))) (xC (.int 0)))) (sSeq (sAsg (.name 3) (xBin modD (xApp intOf (aCons (xBin addD (xBin addD (xBin mulD (xIx (xVar 0) (xC (.int 4))) (xC (.int 48271))) (xBin mulD (xIx (xVar 0) (xC (.int 3))) (xC (.int 69621)))) (xC (.int 1))) (aNil))) (xC (.int 2147483647)))) (sSeq (sAsg (.name 3) (xBin modD (xApp intOf (aCons (xBin addD (xBin mulD (xVar 3) (xC (.int 16807))) (xIx (xVar 0) (xC (.int 3)))) (aNil))) (xC (.int 2147483629)))) (sSeq (sRet (xBin modD (xBin divD (xVar 3) (xC (.int 5))) (xVar 1))) (sNil)))) (sNil)
def s__law_draw_3 : SM := sAsg (.name 4) (xBin modD (xApp intOf (aCons (xIx (xVar 0) (xC (.int 2))) (aNil))) (xVar 1))
def s__law_draw_4 : SM := sPool (xVar 0) (xC (.int 2)) (xBin divD (xIx (xVar 0) (xC (.int 2))) (xVar 1))
def s__law_draw_5 : SM := sRet (xVar 4)
def b__law_draw : SM := sSeq s__law_draw_0 (sSeq s__law_draw_1 (sSeq s__law_draw_2 (sSeq s__law_draw_3 (sSeq s__law_draw_4 (sSeq s__law_draw_5 (sNil))))))
def s__law_pick_0 : SM := sRet (xIx (xVar 1) (xCall "_law_draw" (aCons (xVar 0) (aCons (xApp lenD (aCons (xVar 1) (aNil))) (aNil)))))
def b__law_pick : SM := sSeq s__law_pick_0 (sNil)
def s__law_bound_0 : SM := sAsg (.name 4) (xCall "_law_pick" (aCons (xVar 0) (aCons (xLst (lDisp (aCons (xC (.str "x")) (aCons (xC (.str "y")) (aCons (xC (.str "z")) (aNil)))))) (aNil))))
def s__law_bound_1 : SM := sAsg (.name 5) (xCall "_law_formula" (aCons (xVar 0) (aCons (xBin addD (xVar 1) (xLst (lDisp (aCons (xVar 4) (aNil))))) (aCons (xVar 2) (aCons (xBin subD (xVar 3) (xC (.int 1))) (aNil))))))
def s__law_bound_2 : SM := sAsg (.name 6) (xCall "_law_draw" (aCons (xVar 0) (aCons (xC (.int 7)) (aNil))))
def s__law_bound_3 : SM := sIf (mBl (xBin ltD (xVar 6) (xC (.int 3)))) (sSeq (sRet (xTup (aCons (xC (.str "some")) (aCons (xVar 4) (aCons (xVar 5) (aNil)))))) (sNil)) (sNil)
def s__law_bound_4 : SM := sRet (xIf (mBl (xBin ltD (xVar 6) (xC (.int 5)))) (xTup (aCons (xC (.str "each")) (aCons (xVar 4) (aCons (xVar 5) (aNil))))) (xTup (aCons (xC (.str "many")) (aCons (xBin addD (xCall "_law_draw" (aCons (xVar 0) (aCons (xC (.int 3)) (aNil)))) (xC (.int 1))) (aCons (xVar 4) (aCons (xVar 5) (aNil)))))))
def b__law_bound : SM := sSeq s__law_bound_0 (sSeq s__law_bound_1 (sSeq s__law_bound_2 (sSeq s__law_bound_3 (sSeq s__law_bound_4 (sNil)))))
def s__law_formula_0 : SM := sAsg (.name 4) (xCall "_law_draw" (aCons (xVar 0) (aCons (xIf (mBl (xBin gtD (xVar 3) (xC (.int 0)))) (xC (.int 12)) (xC (.int 3))) (aNil))))
def s__law_formula_1 : SM := sIf (mBl (xBin ltD (xVar 4) (xC (.int 3)))) (sSeq (sIf (mAnd (mBl (xBin eqD (xVar 4) (xC (.int 0)))) (mBl (xBin eqD (xCall "_law_draw" (aCons (xVar 0) (aCons (xC (.int 2)) (aNil)))) (xC (.int 0))))) (sSeq (sRet (xTup (aCons (xC (.str "same")) (aCons (xCall "_law_pick" (aCons (xVar 0) (aCons (xVar 1) (aNil)))) (aCons (xCall "_law_pick" (aCons (xVar 0) (aCons (xVar 1) (aNil)))) (aNil)))))) (sNil)) (sNil)) (sSeq (sRet (xTup (aCons (xC (.str "is")) (aCons (xCall "_law_pick" (aCons (xVar 0) (aCons (xVar 2) (aNil)))) (aCons (xCall "_law_pick" (aCons (xVar 0) (aCons (xVar 1) (aNil)))) (aNil)))))) (sNil))) (sNil)
def s__law_formula_2 : SM := sIf (mBl (xBin ltD (xVar 4) (xC (.int 5)))) (sSeq (sRet (xTup (aCons (xC (.str "not")) (aCons (xCall "_law_formula" (aCons (xVar 0) (aCons (xVar 1) (aCons (xVar 2) (aCons (xBin subD (xVar 3) (xC (.int 1))) (aNil)))))) (aNil))))) (sNil)) (sNil)
def s__law_formula_3 : SM := sIf (mBl (xBin ltD (xVar 4) (xC (.int 8)))) (sSeq (sAsg (.name 5) (xCall "_law_formula" (aCons (xVar 0) (aCons (xVar 1) (aCons (xVar 2) (aCons (xBin subD (xVar 3) (xC (.int 1))) (aNil))))))) (sSeq (sRet (xTup (aCons (xCall "_law_pick" (aCons (xVar 0) (aCons (xLst (lDisp (aCons (xC (.str "both")) (aCons (xC (.str "either")) (aNil))))) (aNil)))) (aCons (xVar 5) (aCons (xCall "_law_formula" (aCons (xVar 0) (aCons (xVar 1) (aCons (xVar 2) (aCons (xBin subD (xVar 3) (xC (.int 1))) (aNil)))))) (aNil)))))) (sNil))) (sNil)
def s__law_formula_4 : SM := sRet (xCall "_law_bound" (aCons (xVar 0) (aCons (xVar 1) (aCons (xVar 2) (aCons (xVar 3) (aNil))))))
def b__law_formula : SM := sSeq s__law_formula_0 (sSeq s__law_formula_1 (sSeq s__law_formula_2 (sSeq s__law_formula_3 (sSeq s__law_formula_4 (sNil)))))
def s__law_inner_0 : SM := sIf (mBl (xBin inD (xIx (xVar 0) (xC (.int 0))) (xTup (aCons (xC (.str "true")) (aCons (xC (.str "is")) (aCons (xC (.str "same")) (aNil))))))) (sSeq (sRet (xTup (aNil))) (sNil)) (sNil)
def s__law_inner_1 : SM := sRet (xIf (mBl (xBin inD (xIx (xVar 0) (xC (.int 0))) (xTup (aCons (xC (.str "not")) (aCons (xC (.str "both")) (aCons (xC (.str "either")) (aNil))))))) (xSli (xVar 0) (oSome (xC (.int 1))) (oNone)) (xSli (xVar 0) (oSome (xBin subD (xApp lenD (aCons (xVar 0) (aNil))) (xC (.int 1)))) (oNone)))
def b__law_inner : SM := sSeq s__law_inner_0 (sSeq s__law_inner_1 (sNil))
def s__law_rank_0 : SM := sAsg (.name 1) (xApp maxD (aCons (xBin addD (xLst (lDisp (aCons (xC (.int 0)) (aNil)))) (xLst (lComp (iOf (xCall "_law_inner" (aCons (xVar 0) (aNil)))) (.name 2) [2] (mYes) (xCall "_law_rank" (aCons (xVar 2) (aNil)))))) (aNil)))
def s__law_rank_1 : SM := sRet (xBin addD (xVar 1) (xIf (mBl (xBin inD (xIx (xVar 0) (xC (.int 0))) (xTup (aCons (xC (.str "some")) (aCons (xC (.str "each")) (aNil)))))) (xC (.int 1)) (xIf (mBl (xBin eqD (xIx (xVar 0) (xC (.int 0))) (xC (.str "many")))) (xIx (xVar 0) (xC (.int 1))) (xC (.int 0)))))
def b__law_rank : SM := sSeq s__law_rank_0 (sSeq s__law_rank_1 (sNil))
def s__law_sentence_0 : SM := sAsg (.name 3) (xCall "_law_bound" (aCons (xVar 0) (aCons (xLst (lDisp (aNil))) (aCons (xVar 1) (aCons (xVar 2) (aNil))))))
def s__law_sentence_1 : SM := sIf (mBl (xBin eqD (xCall "_law_draw" (aCons (xVar 0) (aCons (xC (.int 5)) (aNil)))) (xC (.int 0)))) (sSeq (sAsg (.name 3) (xTup (aCons (xCall "_law_pick" (aCons (xVar 0) (aCons (xLst (lDisp (aCons (xC (.str "both")) (aCons (xC (.str "either")) (aNil))))) (aNil)))) (aCons (xVar 3) (aCons (xCall "_law_bound" (aCons (xVar 0) (aCons (xLst (lDisp (aNil))) (aCons (xVar 1) (aCons (xBin subD (xVar 2) (xC (.int 1))) (aNil)))))) (aNil)))))) (sNil)) (sNil)
def s__law_sentence_2 : SM := sAsg (.name 3) (xIf (mBl (xBin eqD (xCall "_law_draw" (aCons (xVar 0) (aCons (xC (.int 5)) (aNil)))) (xC (.int 0)))) (xTup (aCons (xC (.str "not")) (aCons (xVar 3) (aNil)))) (xVar 3))
def s__law_sentence_3 : SM := sRet (xIf (mBl (xBin ltD (xCall "_law_rank" (aCons (xVar 3) (aNil))) (xC (.int 4)))) (xVar 3) (xTup (aCons (xC (.str "many")) (aCons (xCall "_law_draw" (aCons (xVar 0) (aCons (xC (.int 4)) (aNil)))) (aCons (xC (.str "x")) (aCons (xTup (aCons (xC (.str "is")) (aCons (xCall "_law_pick" (aCons (xVar 0) (aCons (xVar 1) (aNil)))) (aCons (xC (.str "x")) (aNil))))) (aNil)))))))
def b__law_sentence : SM := sSeq s__law_sentence_0 (sSeq s__law_sentence_1 (sSeq s__law_sentence_2 (sSeq s__law_sentence_3 (sNil))))
def s__law_theory_0 : SM := sRet (xApp tupOf (aCons (xLst (lComp (iArg rng1 (aCons (xCall "_law_draw" (aCons (xVar 0) (aCons (xBin addD (xVar 2) (xC (.int 1))) (aNil)))) (aNil))) (.name 4) [4] (mYes) (xCall "_law_sentence" (aCons (xVar 0) (aCons (xVar 1) (aCons (xVar 3) (aNil))))))) (aNil)))
def b__law_theory : SM := sSeq s__law_theory_0 (sNil)
def s__law_same_0 : SM := sIf (mOr (mTru (xApp isiD (aCons (xVar 1) (aCons (xC (.ty "tuple")) (aNil))))) (mTru (xApp isiD (aCons (xVar 1) (aCons (xC (.ty "list")) (aNil)))))) (sSeq (sIf (mOr (mBl (xBin neD (xApp isiD (aCons (xVar 1) (aCons (xC (.ty "tuple")) (aNil)))) (xApp isiD (aCons (xVar 0) (aCons (xC (.ty "tuple")) (aNil)))))) (mBl (xBin neD (xApp isiD (aCons (xVar 1) (aCons (xC (.ty "list")) (aNil)))) (xApp isiD (aCons (xVar 0) (aCons (xC (.ty "list")) (aNil))))))) (sSeq (sRet (xC (.bl false))) (sNil)) (sNil)) (sSeq (sIf (mBl (xBin neD (xApp lenD (aCons (xVar 0) (aNil))) (xApp lenD (aCons (xVar 1) (aNil))))) (sSeq (sRet (xC (.bl false))) (sNil)) (sNil)) (sSeq (sRet (xBin eqD (xApp lenD (aCons (xLst (lComp (iArg rng1 (aCons (xApp lenD (aCons (xVar 1) (aNil))) (aNil))) (.name 2) [2] (mNot (mTru (xCall "_law_same" (aCons (xIx (xVar 0) (xVar 2)) (aCons (xIx (xVar 1) (xVar 2)) (aNil)))))) (xVar 2))) (aNil))) (xC (.int 0)))) (sNil)))) (sNil)
def s__law_same_1 : SM := sIf (mBl (xBin isND (xVar 1) (xC .non))) (sSeq (sRet (xBin isND (xVar 0) (xC .non))) (sNil)) (sNil)
def s__law_same_2 : SM := sIf (mOr (mTru (xApp isiD (aCons (xVar 1) (aCons (xC (.ty "bool")) (aNil))))) (mTru (xApp isiD (aCons (xVar 0) (aCons (xC (.ty "bool")) (aNil)))))) (sSeq (sRet (xAnd (xApp isiD (aCons (xVar 1) (aCons (xC (.ty "bool")) (aNil)))) (xAnd (xApp isiD (aCons (xVar 0) (aCons (xC (.ty "bool")) (aNil)))) (xBin eqD (xVar 0) (xVar 1))))) (sNil)) (sNil)
def s__law_same_3 : SM := sIf (mTru (xApp isiD (aCons (xVar 1) (aCons (xC (.ty "int")) (aNil))))) (sSeq (sRet (xAnd (xApp isiD (aCons (xVar 0) (aCons (xC (.ty "int")) (aNil)))) (xBin eqD (xVar 0) (xVar 1)))) (sNil)) (sNil)
def s__law_same_4 : SM := sRet (xAnd (xApp isiD (aCons (xVar 0) (aCons (xC (.ty "str")) (aNil)))) (xBin eqD (xVar 0) (xVar 1)))
def b__law_same : SM := sSeq s__law_same_0 (sSeq s__law_same_1 (sSeq s__law_same_2 (sSeq s__law_same_3 (sSeq s__law_same_4 (sNil)))))
def s__law_limit_0 : SM := sRet (xApp maxD (aCons (xBin addD (xLst (lDisp (aCons (xC (.int 1)) (aNil)))) (xLst (lComp (iOf (xVar 0)) (.name 1) [1] (mYes) (xCall "_law_rank" (aCons (xVar 1) (aNil)))))) (aNil)))
def b__law_limit : SM := sSeq s__law_limit_0 (sNil)
def s_law_2_b : SM := sSeq (sIf (mNot (mTru (xCall "_law_same" (aCons (xLst (lDisp (aCons (xCall "rank_of" (aCons (xVar 6) (aNil))) (aCons (xCall "limit_of" (aCons (xTup (aCons (xVar 6) (aNil))) (aNil))) (aNil))))) (aCons (xLst (lDisp (aCons (xCall "_law_rank" (aCons (xVar 6) (aNil))) (aCons (xApp maxD (aCons (xC (.int 1)) (aCons (xCall "_law_rank" (aCons (xVar 6) (aNil))) (aNil)))) (aNil))))) (aNil)))))) (sSeq (sRet (xC (.bl false))) (sNil)) (sNil)) (sNil)
def s_law_0 : SM := sAsg (.name 2) (xLst (lDisp (aCons (xC (.str "k")) (aCons (xC (.str "m")) (aNil)))))
def s_law_1 : SM := sPar3 3 4 5 (xCall "_law_formula" (aCons (xVar 1) (aCons (xLst (lDisp (aCons (xC (.str "x")) (aCons (xC (.str "y")) (aNil))))) (aCons (xVar 2) (aCons (xC (.int 4)) (aNil)))))) (xCall "_law_sentence" (aCons (xVar 1) (aCons (xVar 2) (aCons (xC (.int 4)) (aNil))))) (xCall "_law_theory" (aCons (xVar 1) (aCons (xVar 2) (aCons (xC (.int 3)) (aCons (xC (.int 3)) (aNil))))))
def s_law_2 : SM := sFor (iOf (xLst (lDisp (aCons (xVar 3) (aCons (xVar 4) (aCons (xTup (aCons (xC (.str "many")) (aCons (xC (.int 5)) (aCons (xC (.str "x")) (aCons (xVar 3) (aNil)))))) (aCons (xTup (aCons (xC (.str "many")) (aCons (xC (.int 0)) (aCons (xC (.str "x")) (aCons (xVar 4) (aNil)))))) (aCons (xTup (aCons (xC (.str "not")) (aCons (xTup (aCons (xC (.str "each")) (aCons (xC (.str "z")) (aCons (xVar 3) (aNil))))) (aNil)))) (aCons (xTup (aCons (xC (.str "both")) (aCons (xVar 3) (aCons (xVar 4) (aNil))))) (aNil)))))))))) (.name 6) s_law_2_b
def s_law_3 : SM := sRet (xCall "_law_same" (aCons (xLst (lDisp (aCons (xCall "limit_of" (aCons (xVar 5) (aNil))) (aCons (xCall "limit_of" (aCons (xTup (aNil)) (aNil))) (aCons (xCall "limit_of" (aCons (xTup (aCons (xVar 3) (aCons (xVar 4) (aNil)))) (aNil))) (aNil)))))) (aCons (xLst (lDisp (aCons (xCall "_law_limit" (aCons (xVar 5) (aNil))) (aCons (xC (.int 1)) (aCons (xCall "_law_limit" (aCons (xTup (aCons (xVar 3) (aCons (xVar 4) (aNil)))) (aNil))) (aNil)))))) (aNil))))
def b_law : SM := sSeq s_law_0 (sSeq s_law_1 (sSeq s_law_2 (sSeq s_law_3 (sNil))))
theorem body_inner_of : G.body i_inner_of = some b_inner_of := by kernel_rfl
theorem run_inner_of (k : Nat) (ds S : List D) : G.run (k + 1) "inner_of" ds S = runB 2 (b_inner_of (G.run k)) ds S := by
  show ((G.find "inner_of").bind fun d => (G.body d).bind fun f => runB d.N.length (f (G.run k)) ds S) = _
  rw [show G.find "inner_of" = some i_inner_of by kernel_rfl]
  show ((G.body i_inner_of).bind fun f => runB i_inner_of.N.length (f (G.run k)) ds S) = _
  rw [body_inner_of]
  rfl
theorem body_rank_of : G.body i_rank_of = some b_rank_of := by kernel_rfl
theorem run_rank_of (k : Nat) (ds S : List D) : G.run (k + 1) "rank_of" ds S = runB 4 (b_rank_of (G.run k)) ds S := by
  show ((G.find "rank_of").bind fun d => (G.body d).bind fun f => runB d.N.length (f (G.run k)) ds S) = _
  rw [show G.find "rank_of" = some i_rank_of by kernel_rfl]
  show ((G.body i_rank_of).bind fun f => runB i_rank_of.N.length (f (G.run k)) ds S) = _
  rw [body_rank_of]
  rfl
theorem body_limit_of : G.body i_limit_of = some b_limit_of := by kernel_rfl
theorem run_limit_of (k : Nat) (ds S : List D) : G.run (k + 1) "limit_of" ds S = runB 2 (b_limit_of (G.run k)) ds S := by
  show ((G.find "limit_of").bind fun d => (G.body d).bind fun f => runB d.N.length (f (G.run k)) ds S) = _
  rw [show G.find "limit_of" = some i_limit_of by kernel_rfl]
  show ((G.body i_limit_of).bind fun f => runB i_limit_of.N.length (f (G.run k)) ds S) = _
  rw [body_limit_of]
  rfl
theorem body__law_spread : G.body i__law_spread = some b__law_spread := by kernel_rfl
theorem run__law_spread (k : Nat) (ds S : List D) : G.run (k + 1) "_law_spread" ds S = runB 4 (b__law_spread (G.run k)) ds S := by
  show ((G.find "_law_spread").bind fun d => (G.body d).bind fun f => runB d.N.length (f (G.run k)) ds S) = _
  rw [show G.find "_law_spread" = some i__law_spread by kernel_rfl]
  show ((G.body i__law_spread).bind fun f => runB i__law_spread.N.length (f (G.run k)) ds S) = _
  rw [body__law_spread]
  rfl
theorem body__law_draw : G.body i__law_draw = some b__law_draw := by kernel_rfl
theorem run__law_draw (k : Nat) (ds S : List D) : G.run (k + 1) "_law_draw" ds S = runB 5 (b__law_draw (G.run k)) ds S := by
  show ((G.find "_law_draw").bind fun d => (G.body d).bind fun f => runB d.N.length (f (G.run k)) ds S) = _
  rw [show G.find "_law_draw" = some i__law_draw by kernel_rfl]
  show ((G.body i__law_draw).bind fun f => runB i__law_draw.N.length (f (G.run k)) ds S) = _
  rw [body__law_draw]
  rfl
theorem body__law_pick : G.body i__law_pick = some b__law_pick := by kernel_rfl
theorem run__law_pick (k : Nat) (ds S : List D) : G.run (k + 1) "_law_pick" ds S = runB 2 (b__law_pick (G.run k)) ds S := by
  show ((G.find "_law_pick").bind fun d => (G.body d).bind fun f => runB d.N.length (f (G.run k)) ds S) = _
  rw [show G.find "_law_pick" = some i__law_pick by kernel_rfl]
  show ((G.body i__law_pick).bind fun f => runB i__law_pick.N.length (f (G.run k)) ds S) = _
  rw [body__law_pick]
  rfl
theorem body__law_bound : G.body i__law_bound = some b__law_bound := by kernel_rfl
theorem run__law_bound (k : Nat) (ds S : List D) : G.run (k + 1) "_law_bound" ds S = runB 7 (b__law_bound (G.run k)) ds S := by
  show ((G.find "_law_bound").bind fun d => (G.body d).bind fun f => runB d.N.length (f (G.run k)) ds S) = _
  rw [show G.find "_law_bound" = some i__law_bound by kernel_rfl]
  show ((G.body i__law_bound).bind fun f => runB i__law_bound.N.length (f (G.run k)) ds S) = _
  rw [body__law_bound]
  rfl
theorem body__law_formula : G.body i__law_formula = some b__law_formula := by kernel_rfl
theorem run__law_formula (k : Nat) (ds S : List D) : G.run (k + 1) "_law_formula" ds S = runB 6 (b__law_formula (G.run k)) ds S := by
  show ((G.find "_law_formula").bind fun d => (G.body d).bind fun f => runB d.N.length (f (G.run k)) ds S) = _
  rw [show G.find "_law_formula" = some i__law_formula by kernel_rfl]
  show ((G.body i__law_formula).bind fun f => runB i__law_formula.N.length (f (G.run k)) ds S) = _
  rw [body__law_formula]
  rfl
theorem body__law_inner : G.body i__law_inner = some b__law_inner := by kernel_rfl
theorem run__law_inner (k : Nat) (ds S : List D) : G.run (k + 1) "_law_inner" ds S = runB 1 (b__law_inner (G.run k)) ds S := by
  show ((G.find "_law_inner").bind fun d => (G.body d).bind fun f => runB d.N.length (f (G.run k)) ds S) = _
  rw [show G.find "_law_inner" = some i__law_inner by kernel_rfl]
  show ((G.body i__law_inner).bind fun f => runB i__law_inner.N.length (f (G.run k)) ds S) = _
  rw [body__law_inner]
  rfl
theorem body__law_rank : G.body i__law_rank = some b__law_rank := by kernel_rfl
theorem run__law_rank (k : Nat) (ds S : List D) : G.run (k + 1) "_law_rank" ds S = runB 3 (b__law_rank (G.run k)) ds S := by
  show ((G.find "_law_rank").bind fun d => (G.body d).bind fun f => runB d.N.length (f (G.run k)) ds S) = _
  rw [show G.find "_law_rank" = some i__law_rank by kernel_rfl]
  show ((G.body i__law_rank).bind fun f => runB i__law_rank.N.length (f (G.run k)) ds S) = _
  rw [body__law_rank]
  rfl
theorem body__law_sentence : G.body i__law_sentence = some b__law_sentence := by kernel_rfl
theorem run__law_sentence (k : Nat) (ds S : List D) : G.run (k + 1) "_law_sentence" ds S = runB 4 (b__law_sentence (G.run k)) ds S := by
  show ((G.find "_law_sentence").bind fun d => (G.body d).bind fun f => runB d.N.length (f (G.run k)) ds S) = _
  rw [show G.find "_law_sentence" = some i__law_sentence by kernel_rfl]
  show ((G.body i__law_sentence).bind fun f => runB i__law_sentence.N.length (f (G.run k)) ds S) = _
  rw [body__law_sentence]
  rfl
theorem body__law_theory : G.body i__law_theory = some b__law_theory := by kernel_rfl
theorem run__law_theory (k : Nat) (ds S : List D) : G.run (k + 1) "_law_theory" ds S = runB 5 (b__law_theory (G.run k)) ds S := by
  show ((G.find "_law_theory").bind fun d => (G.body d).bind fun f => runB d.N.length (f (G.run k)) ds S) = _
  rw [show G.find "_law_theory" = some i__law_theory by kernel_rfl]
  show ((G.body i__law_theory).bind fun f => runB i__law_theory.N.length (f (G.run k)) ds S) = _
  rw [body__law_theory]
  rfl
theorem body__law_same : G.body i__law_same = some b__law_same := by kernel_rfl
theorem run__law_same (k : Nat) (ds S : List D) : G.run (k + 1) "_law_same" ds S = runB 3 (b__law_same (G.run k)) ds S := by
  show ((G.find "_law_same").bind fun d => (G.body d).bind fun f => runB d.N.length (f (G.run k)) ds S) = _
  rw [show G.find "_law_same" = some i__law_same by kernel_rfl]
  show ((G.body i__law_same).bind fun f => runB i__law_same.N.length (f (G.run k)) ds S) = _
  rw [body__law_same]
  rfl
theorem body__law_limit : G.body i__law_limit = some b__law_limit := by kernel_rfl
theorem run__law_limit (k : Nat) (ds S : List D) : G.run (k + 1) "_law_limit" ds S = runB 2 (b__law_limit (G.run k)) ds S := by
  show ((G.find "_law_limit").bind fun d => (G.body d).bind fun f => runB d.N.length (f (G.run k)) ds S) = _
  rw [show G.find "_law_limit" = some i__law_limit by kernel_rfl]
  show ((G.body i__law_limit).bind fun f => runB i__law_limit.N.length (f (G.run k)) ds S) = _
  rw [body__law_limit]
  rfl
end Ip

set_option maxHeartbeats 4000000
namespace Ip
open PySem L2
local macro_rules | `(tactic| walk_at "ev") => `(tactic| simp -implicitDefEqProofs only [v_c, v_var, v_varK, v_bin, v_binK1, v_binK2, v_pairK, v_un, v_unK, v_app, v_appK, v_call, v_callK, v_nil, v_cons, v_consK1, v_consK2, v_tup, v_tupK, v_lst, v_lstK, v_disp, v_dispK, v_ix, v_ixK1, v_ixP, v_ixT, v_ixL, at0, at1, at2, at3, at4, v_bl, v_blK, v_tru, v_truK, v_truN, v_mnot, v_notK, v_mand, v_andT, v_andF, v_mor, v_orT, v_orF, v_yes, v_xand, v_xandT, v_xandF, v_xor, v_xorT, v_xorF, v_xnot, v_xnotK, v_xif, v_xifT, v_xifF, v_ch, v_chK1, v_chK2, v_chT, v_chF, v_chK4, v_sli, v_sliK1, v_sliK2, v_sliT, v_sliL, v_onone, v_osome, v_osoK, v_iof, v_iofT, v_iofL, v_iarg, v_snil, v_seq, v_seqN, v_seqR, v_seqB, v_seqC, v_sif, v_ifT, v_ifF, v_ret, v_retK, v_asg, v_asgN, v_asgT, v_put0, v_put1, v_bk, v_ct, v_pool, v_poolK1, v_poolK2, v_pool1, v_pool2, v_pool3, v_for, v_forK, v_for0, v_for1, v_putN, v_forK1, v_forN, v_forC, v_forB, v_forR, v_par3, v_par3K1, v_par3K2, v_par3K3, v_par, v_parK1, v_parK2, v_vsh, v_vshK, v_run, v_runR, v_runN, v_comp, startE,
  o_add, o_sub, o_mul, o_mod, o_div, o_lt, o_le, o_gt, o_ge, o_int, o_neg, o_lenL, o_lenT, o_eqI, o_eqS, o_eqB, o_neI, o_neS, o_neB, o_tupL, o_tupT, o_addL, o_addT,
  List.map_cons, List.map_nil, List.length_cons, List.length_nil, List.cons_append, List.nil_append, List.append_nil, List.getElem?_cons_zero, List.getElem?_cons_succ, List.set_cons_zero, List.set_cons_succ, List.replicate_succ, List.replicate_zero, Nat.reduceAdd, Nat.reduceSub, Nat.reduceLeDiff, Int.reduceNeg, Int.reducePow, Int.reduceLT, Int.reduceLE, Int.reduceNe, Int.reduceEq, Int.reduceAdd, Int.natAbs, ne_eq, not_false_eq_true, and_true, true_and, and_self, decide_true, decide_false, Nat.reduceLT, Bool.not_true, Bool.not_false, w_t1_true, w_t1_is, w_t1_same, w_t1_not, w_t1_both, w_t1_either, w_t1_some, w_t1_each, w_t1_many, w_t2_true, w_t2_is, w_t2_same, w_t2_not, w_t2_both, w_t2_either, w_t2_some, w_t2_each, w_t2_many, w_t3_true, w_t3_is, w_t3_same, w_t3_not, w_t3_both, w_t3_either, w_t3_some, w_t3_each, w_t3_many, w_t4_true, w_t4_is, w_t4_same, w_t4_not, w_t4_both, w_t4_either, w_t4_some, w_t4_each, w_t4_many, w_t5_true, w_t5_is, w_t5_same, w_t5_not, w_t5_both, w_t5_either, w_t5_some, w_t5_each, w_t5_many, w_q_true_true, w_q_true_is, w_q_true_same, w_q_true_not, w_q_true_both, w_q_true_either, w_q_true_some, w_q_true_each, w_q_true_many, w_q_is_true, w_q_is_is, w_q_is_same, w_q_is_not, w_q_is_both, w_q_is_either, w_q_is_some, w_q_is_each, w_q_is_many, w_q_same_true, w_q_same_is, w_q_same_same, w_q_same_not, w_q_same_both, w_q_same_either, w_q_same_some, w_q_same_each, w_q_same_many, w_q_not_true, w_q_not_is, w_q_not_same, w_q_not_not, w_q_not_both, w_q_not_either, w_q_not_some, w_q_not_each, w_q_not_many, w_q_both_true, w_q_both_is, w_q_both_same, w_q_both_not, w_q_both_both, w_q_both_either, w_q_both_some, w_q_both_each, w_q_both_many, w_q_either_true, w_q_either_is, w_q_either_same, w_q_either_not, w_q_either_both, w_q_either_either, w_q_either_some, w_q_either_each, w_q_either_many, w_q_some_true, w_q_some_is, w_q_some_same, w_q_some_not, w_q_some_both, w_q_some_either, w_q_some_some, w_q_some_each, w_q_some_many, w_q_each_true, w_q_each_is, w_q_each_same, w_q_each_not, w_q_each_both, w_q_each_either, w_q_each_some, w_q_each_each, w_q_each_many, w_q_many_true, w_q_many_is, w_q_many_same, w_q_many_not, w_q_many_both, w_q_many_either, w_q_many_some, w_q_many_each, w_q_many_many, i_non_int, i_non_str, i_non_bool, i_non_tuple, i_non_list, n_non, nn_non, i_bl_int, i_bl_str, i_bl_bool, i_bl_tuple, i_bl_list, n_bl, nn_bl, i_int_int, i_int_str, i_int_bool, i_int_tuple, i_int_list, n_int, nn_int, i_str_int, i_str_str, i_str_bool, i_str_tuple, i_str_list, n_str, nn_str, i_tup_int, i_tup_str, i_tup_bool, i_tup_tuple, i_tup_list, n_tup, nn_tup, i_lst_int, i_lst_str, i_lst_bool, i_lst_tuple, i_lst_list, n_lst, nn_lst, i_dic_int, i_dic_str, i_dic_bool, i_dic_tuple, i_dic_list, n_dic, nn_dic])
local macro_rules | `(tactic| walk_at "evs") => `(tactic| simp -implicitDefEqProofs only [v_c, v_var, v_varK, v_bin, v_binK1, v_binK2, v_pairK, v_un, v_unK, v_app, v_appK, v_call, v_callK, v_nil, v_cons, v_consK1, v_consK2, v_tup, v_tupK, v_lst, v_lstK, v_disp, v_dispK, v_ix, v_ixK1, v_ixP, v_ixT, v_ixL, at0, at1, at2, at3, at4, v_bl, v_blK, v_tru, v_truK, v_truN, v_mnot, v_notK, v_mand, v_andT, v_andF, v_mor, v_orT, v_orF, v_yes, v_xand, v_xandT, v_xandF, v_xor, v_xorT, v_xorF, v_xnot, v_xnotK, v_xif, v_xifT, v_xifF, v_ch, v_chK1, v_chK2, v_chT, v_chF, v_chK4, v_sli, v_sliK1, v_sliK2, v_sliT, v_sliL, v_onone, v_osome, v_osoK, v_iof, v_iofT, v_iofL, v_iarg, v_snil, v_seq, v_seqN, v_seqR, v_seqB, v_seqC, v_sif, v_ifT, v_ifF, v_ret, v_retK, v_asg, v_asgN, v_asgT, v_put0, v_put1, v_bk, v_ct, v_pool, v_poolK1, v_poolK2, v_pool1, v_pool2, v_pool3, v_for, v_forK, v_for0, v_for1, v_putN, v_forK1, v_forN, v_forC, v_forB, v_forR, v_par3, v_par3K1, v_par3K2, v_par3K3, v_par, v_parK1, v_parK2, v_vsh, v_vshK, v_run, v_runR, v_runN, v_comp, startE,
  o_add, o_sub, o_mul, o_mod, o_div, o_lt, o_le, o_gt, o_ge, o_int, o_neg, o_lenL, o_lenT, o_eqI, o_eqS, o_eqB, o_neI, o_neS, o_neB, o_tupL, o_tupT, o_addL, o_addT,
  List.map_cons, List.map_nil, List.length_cons, List.length_nil, List.cons_append, List.nil_append, List.append_nil, List.getElem?_cons_zero, List.getElem?_cons_succ, List.set_cons_zero, List.set_cons_succ, List.replicate_succ, List.replicate_zero, Nat.reduceAdd, Nat.reduceSub, Nat.reduceLeDiff, Int.reduceNeg, Int.reducePow, Int.reduceLT, Int.reduceLE, Int.reduceNe, Int.reduceEq, Int.reduceAdd, Int.natAbs, ne_eq, not_false_eq_true, and_true, true_and, and_self, decide_true, decide_false, Nat.reduceLT, Bool.not_true, Bool.not_false, w_t1_true, w_t1_is, w_t1_same, w_t1_not, w_t1_both, w_t1_either, w_t1_some, w_t1_each, w_t1_many, w_t2_true, w_t2_is, w_t2_same, w_t2_not, w_t2_both, w_t2_either, w_t2_some, w_t2_each, w_t2_many, w_t3_true, w_t3_is, w_t3_same, w_t3_not, w_t3_both, w_t3_either, w_t3_some, w_t3_each, w_t3_many, w_t4_true, w_t4_is, w_t4_same, w_t4_not, w_t4_both, w_t4_either, w_t4_some, w_t4_each, w_t4_many, w_t5_true, w_t5_is, w_t5_same, w_t5_not, w_t5_both, w_t5_either, w_t5_some, w_t5_each, w_t5_many, w_q_true_true, w_q_true_is, w_q_true_same, w_q_true_not, w_q_true_both, w_q_true_either, w_q_true_some, w_q_true_each, w_q_true_many, w_q_is_true, w_q_is_is, w_q_is_same, w_q_is_not, w_q_is_both, w_q_is_either, w_q_is_some, w_q_is_each, w_q_is_many, w_q_same_true, w_q_same_is, w_q_same_same, w_q_same_not, w_q_same_both, w_q_same_either, w_q_same_some, w_q_same_each, w_q_same_many, w_q_not_true, w_q_not_is, w_q_not_same, w_q_not_not, w_q_not_both, w_q_not_either, w_q_not_some, w_q_not_each, w_q_not_many, w_q_both_true, w_q_both_is, w_q_both_same, w_q_both_not, w_q_both_both, w_q_both_either, w_q_both_some, w_q_both_each, w_q_both_many, w_q_either_true, w_q_either_is, w_q_either_same, w_q_either_not, w_q_either_both, w_q_either_either, w_q_either_some, w_q_either_each, w_q_either_many, w_q_some_true, w_q_some_is, w_q_some_same, w_q_some_not, w_q_some_both, w_q_some_either, w_q_some_some, w_q_some_each, w_q_some_many, w_q_each_true, w_q_each_is, w_q_each_same, w_q_each_not, w_q_each_both, w_q_each_either, w_q_each_some, w_q_each_each, w_q_each_many, w_q_many_true, w_q_many_is, w_q_many_same, w_q_many_not, w_q_many_both, w_q_many_either, w_q_many_some, w_q_many_each, w_q_many_many, i_non_int, i_non_str, i_non_bool, i_non_tuple, i_non_list, n_non, nn_non, i_bl_int, i_bl_str, i_bl_bool, i_bl_tuple, i_bl_list, n_bl, nn_bl, i_int_int, i_int_str, i_int_bool, i_int_tuple, i_int_list, n_int, nn_int, i_str_int, i_str_str, i_str_bool, i_str_tuple, i_str_list, n_str, nn_str, i_tup_int, i_tup_str, i_tup_bool, i_tup_tuple, i_tup_list, n_tup, nn_tup, i_lst_int, i_lst_str, i_lst_bool, i_lst_tuple, i_lst_list, n_lst, nn_lst, i_dic_int, i_dic_str, i_dic_bool, i_dic_tuple, i_dic_list, n_dic, nn_dic, *])

/-! ### the pool: draws -/
theorem spread_ok (R : RC) (cell : Int) (S : List D) : ∃ w : Int, runB 4 (b__law_spread R) [.int cell] S = some (.int w, S) := by
  have h4 : rng1 [.int 4] = some [.int 0, .int 1, .int 2, .int 3] := by rfl
  unfold b__law_spread s__law_spread_0 s__law_spread_1 s__law_spread_2 s__law_spread_3 s__law_spread_2_b
  walk_at "ev"
  simp only [v_iargK h4]
  walk_at "ev"
  exact ⟨_, rfl⟩
/-- a pool as it may stand -/
def PV (S : List D) : Prop := ∃ (xs : List Int) (a b c salt : Int), S = [.lst (xs.map .int), .int a, .int b, .int c, .int salt] ∧ 0 ≤ a
theorem PV.pool0 {ns : List Int} {salt : Int} : PV (pool0 ns salt) := ⟨ns, 0, 0, 0, salt, rfl, Int.le_refl 0⟩
theorem at_map {xs : List Int} {a : Int} (h0 : 0 ≤ a) (h : a < (xs.length : Int)) : ∃ x, atI (xs.map D.int) a = some (.int x) := by
  have hk : a.toNat < xs.length := by omega
  have ek : a = ((a.toNat : Nat) : Int) := by omega
  refine ⟨xs[a.toNat], ?_⟩
  have q : atI (xs.map D.int) ((a.toNat : Nat) : Int) = some (.int xs[a.toNat]) := atI_nat (by rw [List.getElem?_map, List.getElem?_eq_getElem hk] <;> rfl)
  rw [← ek] at q
  exact q
theorem draw_0 (R : RC) (hs : ∀ cell S, ∃ w : Int, R "_law_spread" [.int cell] S = some (.int w, S)) {xs : List Int} {a b c salt many : Int} (h0 : 0 ≤ a) :
    ∃ x2 a' b', 0 ≤ a' ∧ s__law_draw_0 R [some (.sh .pool), some (.sh (.int many)), none, none, none] [.lst (xs.map .int), .int a, .int b, .int c, .int salt] =
      some (.nx, [some (.sh .pool), some (.sh (.int many)), x2, none, none], [.lst (xs.map .int), .int a', .int b', .int c, .int salt]) := by
  unfold s__law_draw_0
  walk_at "ev"
  by_cases hb : b ≤ 0
  · simp only [hb, decide_true]
    walk_at "ev"
    by_cases ha : a < (xs.length : Int)
    · obtain ⟨x, ex⟩ := at_map h0 ha
      simp only [List.length_map, ha, decide_true]
      walk_at "ev"
      simp only [ex]
      walk_at "ev"
      by_cases hx : x < 1000000000000000000
      · obtain ⟨w, ew⟩ := hs x [.lst (xs.map .int), .int (a + 1), .int x, .int c, .int salt]
        simp only [hx, decide_true]
        walk_at "ev"
        simp only [ew]
        walk_at "ev"
        exact ⟨_, a + 1, w, by omega, rfl⟩
      · simp only [hx, decide_false]
        walk_at "ev"
        exact ⟨_, a + 1, x, by omega, rfl⟩
    · simp only [List.length_map, ha, decide_false]
      walk_at "ev"
      exact ⟨_, a, b, h0, rfl⟩
  · simp only [hb, decide_false]
    walk_at "ev"
    exact ⟨_, a, b, h0, rfl⟩
theorem fmod_pos {i j : Int} (h : 0 < j) : 0 ≤ i.fmod j ∧ i.fmod j < j := by
  rw [Int.fmod_eq_emod_of_nonneg i (Int.le_of_lt h)]
  exact ⟨Int.emod_nonneg i (by omega), Int.emod_lt_of_pos i h⟩
theorem draw_ok (R : RC) (hs : ∀ cell S, ∃ w : Int, R "_law_spread" [.int cell] S = some (.int w, S)) {S : List D} (h : PV S) {many : Int} (hm : 0 < many) (hm2 : many < 1073741824) :
    ∃ (v : Int) (S' : List D), PV S' ∧ 0 ≤ v ∧ v < many ∧ runB 5 (b__law_draw R) [.pool, .int many] S = some (.int v, S') := by
  obtain ⟨xs, a, b, c, salt, rfl, h0⟩ := h
  obtain ⟨x2, a', b', h0', e⟩ := draw_0 R hs (xs := xs) (b := b) (c := c) (salt := salt) (many := many) h0
  have ne : many ≠ 0 := by omega
  have na : many.natAbs < 1073741824 := by omega
  unfold b__law_draw
  walk_at "ev"
  simp only [e]
  walk_at "ev"
  unfold s__law_draw_1 s__law_draw_2
  walk_at "ev"
  by_cases hb : b' ≤ 0
  · simp only [hb, decide_true]
    walk_at "ev"
    simp only [o_div (show (5 : Int) ≠ 0 by decide) (show (5 : Int).natAbs < 1073741824 by decide), o_mod ne]
    walk_at "ev"
    exact ⟨_, _, ⟨xs, a', b', c + 1, salt, rfl, h0'⟩, (fmod_pos hm).1, (fmod_pos hm).2, rfl⟩
  · simp only [hb, decide_false]
    walk_at "ev"
    unfold s__law_draw_3 s__law_draw_4 s__law_draw_5
    walk_at "ev"
    simp only [o_mod ne]
    walk_at "ev"
    simp only [o_div ne na]
    walk_at "ev"
    exact ⟨_, _, ⟨xs, a', _, c + 1, salt, rfl, h0'⟩, (fmod_pos hm).1, (fmod_pos hm).2, rfl⟩
end Ip

set_option maxHeartbeats 4000000
namespace Ip
open PySem L2
local macro_rules | `(tactic| walk_at "ev") => `(tactic| simp -implicitDefEqProofs only [v_c, v_var, v_varK, v_bin, v_binK1, v_binK2, v_pairK, v_un, v_unK, v_app, v_appK, v_call, v_callK, v_nil, v_cons, v_consK1, v_consK2, v_tup, v_tupK, v_lst, v_lstK, v_disp, v_dispK, v_ix, v_ixK1, v_ixP, v_ixT, v_ixL, at0, at1, at2, at3, at4, v_bl, v_blK, v_tru, v_truK, v_truN, v_mnot, v_notK, v_mand, v_andT, v_andF, v_mor, v_orT, v_orF, v_yes, v_xand, v_xandT, v_xandF, v_xor, v_xorT, v_xorF, v_xnot, v_xnotK, v_xif, v_xifT, v_xifF, v_ch, v_chK1, v_chK2, v_chT, v_chF, v_chK4, v_sli, v_sliK1, v_sliK2, v_sliT, v_sliL, v_onone, v_osome, v_osoK, v_iof, v_iofT, v_iofL, v_iarg, v_snil, v_seq, v_seqN, v_seqR, v_seqB, v_seqC, v_sif, v_ifT, v_ifF, v_ret, v_retK, v_asg, v_asgN, v_asgT, v_put0, v_put1, v_bk, v_ct, v_pool, v_poolK1, v_poolK2, v_pool1, v_pool2, v_pool3, v_for, v_forK, v_for0, v_for1, v_putN, v_forK1, v_forN, v_forC, v_forB, v_forR, v_par3, v_par3K1, v_par3K2, v_par3K3, v_par, v_parK1, v_parK2, v_vsh, v_vshK, v_run, v_runR, v_runN, v_comp, startE,
  o_add, o_sub, o_mul, o_mod, o_div, o_lt, o_le, o_gt, o_ge, o_int, o_neg, o_lenL, o_lenT, o_eqI, o_eqS, o_eqB, o_neI, o_neS, o_neB, o_tupL, o_tupT, o_addL, o_addT,
  List.map_cons, List.map_nil, List.length_cons, List.length_nil, List.cons_append, List.nil_append, List.append_nil, List.getElem?_cons_zero, List.getElem?_cons_succ, List.set_cons_zero, List.set_cons_succ, List.replicate_succ, List.replicate_zero, Nat.reduceAdd, Nat.reduceSub, Nat.reduceLeDiff, Int.reduceNeg, Int.reducePow, Int.reduceLT, Int.reduceLE, Int.reduceNe, Int.reduceEq, Int.reduceAdd, Int.natAbs, ne_eq, not_false_eq_true, and_true, true_and, and_self, decide_true, decide_false, Nat.reduceLT, Bool.not_true, Bool.not_false, w_t1_true, w_t1_is, w_t1_same, w_t1_not, w_t1_both, w_t1_either, w_t1_some, w_t1_each, w_t1_many, w_t2_true, w_t2_is, w_t2_same, w_t2_not, w_t2_both, w_t2_either, w_t2_some, w_t2_each, w_t2_many, w_t3_true, w_t3_is, w_t3_same, w_t3_not, w_t3_both, w_t3_either, w_t3_some, w_t3_each, w_t3_many, w_t4_true, w_t4_is, w_t4_same, w_t4_not, w_t4_both, w_t4_either, w_t4_some, w_t4_each, w_t4_many, w_t5_true, w_t5_is, w_t5_same, w_t5_not, w_t5_both, w_t5_either, w_t5_some, w_t5_each, w_t5_many, w_q_true_true, w_q_true_is, w_q_true_same, w_q_true_not, w_q_true_both, w_q_true_either, w_q_true_some, w_q_true_each, w_q_true_many, w_q_is_true, w_q_is_is, w_q_is_same, w_q_is_not, w_q_is_both, w_q_is_either, w_q_is_some, w_q_is_each, w_q_is_many, w_q_same_true, w_q_same_is, w_q_same_same, w_q_same_not, w_q_same_both, w_q_same_either, w_q_same_some, w_q_same_each, w_q_same_many, w_q_not_true, w_q_not_is, w_q_not_same, w_q_not_not, w_q_not_both, w_q_not_either, w_q_not_some, w_q_not_each, w_q_not_many, w_q_both_true, w_q_both_is, w_q_both_same, w_q_both_not, w_q_both_both, w_q_both_either, w_q_both_some, w_q_both_each, w_q_both_many, w_q_either_true, w_q_either_is, w_q_either_same, w_q_either_not, w_q_either_both, w_q_either_either, w_q_either_some, w_q_either_each, w_q_either_many, w_q_some_true, w_q_some_is, w_q_some_same, w_q_some_not, w_q_some_both, w_q_some_either, w_q_some_some, w_q_some_each, w_q_some_many, w_q_each_true, w_q_each_is, w_q_each_same, w_q_each_not, w_q_each_both, w_q_each_either, w_q_each_some, w_q_each_each, w_q_each_many, w_q_many_true, w_q_many_is, w_q_many_same, w_q_many_not, w_q_many_both, w_q_many_either, w_q_many_some, w_q_many_each, w_q_many_many, i_non_int, i_non_str, i_non_bool, i_non_tuple, i_non_list, n_non, nn_non, i_bl_int, i_bl_str, i_bl_bool, i_bl_tuple, i_bl_list, n_bl, nn_bl, i_int_int, i_int_str, i_int_bool, i_int_tuple, i_int_list, n_int, nn_int, i_str_int, i_str_str, i_str_bool, i_str_tuple, i_str_list, n_str, nn_str, i_tup_int, i_tup_str, i_tup_bool, i_tup_tuple, i_tup_list, n_tup, nn_tup, i_lst_int, i_lst_str, i_lst_bool, i_lst_tuple, i_lst_list, n_lst, nn_lst, i_dic_int, i_dic_str, i_dic_bool, i_dic_tuple, i_dic_list, n_dic, nn_dic])
local macro_rules | `(tactic| walk_at "evs") => `(tactic| simp -implicitDefEqProofs only [v_c, v_var, v_varK, v_bin, v_binK1, v_binK2, v_pairK, v_un, v_unK, v_app, v_appK, v_call, v_callK, v_nil, v_cons, v_consK1, v_consK2, v_tup, v_tupK, v_lst, v_lstK, v_disp, v_dispK, v_ix, v_ixK1, v_ixP, v_ixT, v_ixL, at0, at1, at2, at3, at4, v_bl, v_blK, v_tru, v_truK, v_truN, v_mnot, v_notK, v_mand, v_andT, v_andF, v_mor, v_orT, v_orF, v_yes, v_xand, v_xandT, v_xandF, v_xor, v_xorT, v_xorF, v_xnot, v_xnotK, v_xif, v_xifT, v_xifF, v_ch, v_chK1, v_chK2, v_chT, v_chF, v_chK4, v_sli, v_sliK1, v_sliK2, v_sliT, v_sliL, v_onone, v_osome, v_osoK, v_iof, v_iofT, v_iofL, v_iarg, v_snil, v_seq, v_seqN, v_seqR, v_seqB, v_seqC, v_sif, v_ifT, v_ifF, v_ret, v_retK, v_asg, v_asgN, v_asgT, v_put0, v_put1, v_bk, v_ct, v_pool, v_poolK1, v_poolK2, v_pool1, v_pool2, v_pool3, v_for, v_forK, v_for0, v_for1, v_putN, v_forK1, v_forN, v_forC, v_forB, v_forR, v_par3, v_par3K1, v_par3K2, v_par3K3, v_par, v_parK1, v_parK2, v_vsh, v_vshK, v_run, v_runR, v_runN, v_comp, startE,
  o_add, o_sub, o_mul, o_mod, o_div, o_lt, o_le, o_gt, o_ge, o_int, o_neg, o_lenL, o_lenT, o_eqI, o_eqS, o_eqB, o_neI, o_neS, o_neB, o_tupL, o_tupT, o_addL, o_addT,
  List.map_cons, List.map_nil, List.length_cons, List.length_nil, List.cons_append, List.nil_append, List.append_nil, List.getElem?_cons_zero, List.getElem?_cons_succ, List.set_cons_zero, List.set_cons_succ, List.replicate_succ, List.replicate_zero, Nat.reduceAdd, Nat.reduceSub, Nat.reduceLeDiff, Int.reduceNeg, Int.reducePow, Int.reduceLT, Int.reduceLE, Int.reduceNe, Int.reduceEq, Int.reduceAdd, Int.natAbs, ne_eq, not_false_eq_true, and_true, true_and, and_self, decide_true, decide_false, Nat.reduceLT, Bool.not_true, Bool.not_false, w_t1_true, w_t1_is, w_t1_same, w_t1_not, w_t1_both, w_t1_either, w_t1_some, w_t1_each, w_t1_many, w_t2_true, w_t2_is, w_t2_same, w_t2_not, w_t2_both, w_t2_either, w_t2_some, w_t2_each, w_t2_many, w_t3_true, w_t3_is, w_t3_same, w_t3_not, w_t3_both, w_t3_either, w_t3_some, w_t3_each, w_t3_many, w_t4_true, w_t4_is, w_t4_same, w_t4_not, w_t4_both, w_t4_either, w_t4_some, w_t4_each, w_t4_many, w_t5_true, w_t5_is, w_t5_same, w_t5_not, w_t5_both, w_t5_either, w_t5_some, w_t5_each, w_t5_many, w_q_true_true, w_q_true_is, w_q_true_same, w_q_true_not, w_q_true_both, w_q_true_either, w_q_true_some, w_q_true_each, w_q_true_many, w_q_is_true, w_q_is_is, w_q_is_same, w_q_is_not, w_q_is_both, w_q_is_either, w_q_is_some, w_q_is_each, w_q_is_many, w_q_same_true, w_q_same_is, w_q_same_same, w_q_same_not, w_q_same_both, w_q_same_either, w_q_same_some, w_q_same_each, w_q_same_many, w_q_not_true, w_q_not_is, w_q_not_same, w_q_not_not, w_q_not_both, w_q_not_either, w_q_not_some, w_q_not_each, w_q_not_many, w_q_both_true, w_q_both_is, w_q_both_same, w_q_both_not, w_q_both_both, w_q_both_either, w_q_both_some, w_q_both_each, w_q_both_many, w_q_either_true, w_q_either_is, w_q_either_same, w_q_either_not, w_q_either_both, w_q_either_either, w_q_either_some, w_q_either_each, w_q_either_many, w_q_some_true, w_q_some_is, w_q_some_same, w_q_some_not, w_q_some_both, w_q_some_either, w_q_some_some, w_q_some_each, w_q_some_many, w_q_each_true, w_q_each_is, w_q_each_same, w_q_each_not, w_q_each_both, w_q_each_either, w_q_each_some, w_q_each_each, w_q_each_many, w_q_many_true, w_q_many_is, w_q_many_same, w_q_many_not, w_q_many_both, w_q_many_either, w_q_many_some, w_q_many_each, w_q_many_many, i_non_int, i_non_str, i_non_bool, i_non_tuple, i_non_list, n_non, nn_non, i_bl_int, i_bl_str, i_bl_bool, i_bl_tuple, i_bl_list, n_bl, nn_bl, i_int_int, i_int_str, i_int_bool, i_int_tuple, i_int_list, n_int, nn_int, i_str_int, i_str_str, i_str_bool, i_str_tuple, i_str_list, n_str, nn_str, i_tup_int, i_tup_str, i_tup_bool, i_tup_tuple, i_tup_list, n_tup, nn_tup, i_lst_int, i_lst_str, i_lst_bool, i_lst_tuple, i_lst_list, n_lst, nn_lst, i_dic_int, i_dic_str, i_dic_bool, i_dic_tuple, i_dic_list, n_dic, nn_dic, *])

/-! ### formulas -/
inductive Fm where
  | tru
  | is (k x : Str)
  | same (x y : Str)
  | not (f : Fm)
  | both (f g : Fm)
  | either (f g : Fm)
  | some (x : Str) (f : Fm)
  | each (x : Str) (f : Fm)
  | many (n : Int) (x : Str) (f : Fm)
def Fm.toD : Fm → D
  | .tru => .tup [.str "true"]
  | .is k x => .tup [.str "is", .str k, .str x]
  | .same x y => .tup [.str "same", .str x, .str y]
  | .not f => .tup [.str "not", f.toD]
  | .both f g => .tup [.str "both", f.toD, g.toD]
  | .either f g => .tup [.str "either", f.toD, g.toD]
  | .some x f => .tup [.str "some", .str x, f.toD]
  | .each x f => .tup [.str "each", .str x, f.toD]
  | .many n x f => .tup [.str "many", .int n, .str x, f.toD]
def Fm.depth : Fm → Nat
  | .tru => 0
  | .is _ _ => 0
  | .same _ _ => 0
  | .not f => f.depth + 1
  | .both f g => max f.depth g.depth + 1
  | .either f g => max f.depth g.depth + 1
  | .some _ f => f.depth + 1
  | .each _ f => f.depth + 1
  | .many _ _ f => f.depth + 1
def Fm.word : Fm → D
  | .tru => .str "true"
  | .is _ _ => .str "is"
  | .same _ _ => .str "same"
  | .not _ => .str "not"
  | .both _ _ => .str "both"
  | .either _ _ => .str "either"
  | .some _ _ => .str "some"
  | .each _ _ => .str "each"
  | .many _ _ _ => .str "many"
def Fm.rank : Fm → Int
  | .tru => 0
  | .is _ _ => 0
  | .same _ _ => 0
  | .not f => max 0 f.rank
  | .both f g => max (max 0 f.rank) g.rank
  | .either f g => max (max 0 f.rank) g.rank
  | .some _ f => 1 + max 0 f.rank
  | .each _ f => 1 + max 0 f.rank
  | .many n _ f => n + max 0 f.rank
def Fm.subs : Fm → List Fm
  | .tru => []
  | .is _ _ => []
  | .same _ _ => []
  | .not f => [f]
  | .both f g => [f, g]
  | .either f g => [f, g]
  | .some _ f => [f]
  | .each _ f => [f]
  | .many _ _ f => [f]
/-- made of these kinds, its free variables among the names -/
def Fm.Ok (kinds : List Str) : List Str → Fm → Prop
  | _, .tru => True
  | ns, .is k x => k ∈ kinds ∧ x ∈ ns
  | ns, .same x y => x ∈ ns ∧ y ∈ ns
  | ns, .not f => f.Ok kinds ns
  | ns, .both f g => f.Ok kinds ns ∧ g.Ok kinds ns
  | ns, .either f g => f.Ok kinds ns ∧ g.Ok kinds ns
  | ns, .some x f => (x ∈ (["x", "y", "z"] : List Str)) ∧ f.Ok kinds (ns ++ [x])
  | ns, .each x f => (x ∈ (["x", "y", "z"] : List Str)) ∧ f.Ok kinds (ns ++ [x])
  | ns, .many n x f => (0 ≤ n ∧ n ≤ 3) ∧ (x ∈ (["x", "y", "z"] : List Str)) ∧ f.Ok kinds (ns ++ [x])
theorem Fm.sub_depth {f g : Fm} (h : g ∈ f.subs) : g.depth < f.depth := by
  cases f <;> simp [Fm.subs] at h <;> (try rcases h with h | h) <;> subst_vars <;> simp [Fm.depth] <;> omega
/-! ### ranks -/
theorem cut1 {a b : D} {l : List D} : cutD (a :: l) (.some 1) none = l := by
  unfold cutD
  have e1 : HT.sIx (a :: l).length 0 (.some 1) = min 1 (a :: l).length := HT.sIx_nat _ 0 1
  rw [e1, HT.sIx_none]
  simp
theorem inner_ok (R : RC) (S : List D) (f : Fm) : runB 2 (b_inner_of R) [f.toD] S = .some (.tup (f.subs.map Fm.toD), S) := by
  unfold b_inner_of s_inner_of_0 s_inner_of_1 s_inner_of_2
  cases f <;> (unfold Fm.toD Fm.subs; walk_at "ev")
  all_goals rfl
theorem linner_ok (R : RC) (S : List D) (f : Fm) : runB 1 (b__law_inner R) [f.toD] S = .some (.tup (f.subs.map Fm.toD), S) := by
  unfold b__law_inner s__law_inner_0 s__law_inner_1
  cases f <;> (unfold Fm.toD Fm.subs; walk_at "ev")
  all_goals rfl
theorem intsD_map (is : List Int) : intsD (is.map D.int) = .some is := by
  induction is with
  | nil => rfl
  | cons i is ih => simp [intsD, ih]
theorem max_ok {i : Int} {is : List Int} : maxD [.lst (.int i :: is.map D.int)] = .some (.int (is.foldl max i)) := by
  have := intsD_map (i :: is)
  simp only [List.map_cons] at this
  simp [maxD, this, maxL]
theorem rank_body (R : RC) (S : List D) (f : Fm) (hi : R "inner_of" [f.toD] S = .some (.tup (f.subs.map Fm.toD), S)) (hr : ∀ g ∈ f.subs, R "rank_of" [g.toD] S = .some (.int g.rank, S)) : runB 4 (b_rank_of R) [f.toD] S = .some (.int f.rank, S) := by
  have e0 : s_rank_of_0 R [some (.sh f.toD), none, none, none] S = .some (.nx, [some (.sh f.toD), some (.sh (f.word)), none, none], S) := by
    unfold s_rank_of_0
    cases f <;> (unfold Fm.toD Fm.word; walk_at "ev")
  have e1 : ∀ w, s_rank_of_1 R [some (.sh f.toD), some (.sh w), none, none] S = .some (.nx, [some (.sh f.toD), some (.sh w), some (.sh (.int ((f.subs.map Fm.rank).foldl max 0))), none], S) := fun w => by
    unfold s_rank_of_1
    walk_at "ev"
    simp only [hi]
    walk_at "ev"
    have hl : (f.subs.map Fm.toD).length ≤ 1000 := by cases f <;> simp [Fm.subs]
    rw [v_compK (by rfl) hl]
    rw [comp_mapT Fm.toD (fun g => D.int g.rank) f.subs fun g hg => ⟨_, rfl, rfl, by walk_at "ev"; exact hr g hg⟩]
    have hl2 : (f.subs.map fun g => D.int g.rank).length ≤ 999 := by cases f <;> simp [Fm.subs]
    walk_at "ev"
    rw [o_addL (by simp; simp at hl2; omega)]
    walk_at "ev"
    have hm : (f.subs.map fun g => D.int g.rank) = (f.subs.map Fm.rank).map D.int := by rw [List.map_map]; rfl
    rw [hm, max_ok]
    walk_at "ev"
  unfold b_rank_of
  walk_at "ev"
  simp only [e0]
  walk_at "ev"
  simp only [e1]
  walk_at "ev"
  unfold s_rank_of_2 s_rank_of_3
  cases f <;> (unfold Fm.toD Fm.word Fm.subs Fm.rank; walk_at "ev")
  all_goals rfl
theorem lrank_body (R : RC) (S : List D) (f : Fm) (hi : R "_law_inner" [f.toD] S = .some (.tup (f.subs.map Fm.toD), S)) (hr : ∀ g ∈ f.subs, R "_law_rank" [g.toD] S = .some (.int g.rank, S)) : runB 3 (b__law_rank R) [f.toD] S = .some (.int f.rank, S) := by
  have e1 : s__law_rank_0 R [some (.sh f.toD), none, none] S = .some (.nx, [some (.sh f.toD), some (.sh (.int ((f.subs.map Fm.rank).foldl max 0))), none], S) := by
    unfold s__law_rank_0
    walk_at "ev"
    simp only [hi]
    walk_at "ev"
    have hl : (f.subs.map Fm.toD).length ≤ 1000 := by cases f <;> simp [Fm.subs]
    rw [v_compK (by rfl) hl]
    rw [comp_mapT Fm.toD (fun g => D.int g.rank) f.subs fun g hg => ⟨_, rfl, rfl, by walk_at "ev"; exact hr g hg⟩]
    have hl2 : (f.subs.map fun g => D.int g.rank).length ≤ 999 := by cases f <;> simp [Fm.subs]
    walk_at "ev"
    rw [o_addL (by simp; simp at hl2; omega)]
    walk_at "ev"
    have hm : (f.subs.map fun g => D.int g.rank) = (f.subs.map Fm.rank).map D.int := by rw [List.map_map]; rfl
    rw [hm, max_ok]
    walk_at "ev"
  unfold b__law_rank
  walk_at "ev"
  simp only [e1]
  walk_at "ev"
  unfold s__law_rank_1
  cases f <;> (unfold Fm.toD Fm.subs Fm.rank; walk_at "ev")
  all_goals (simp [Int.add_comm])
end Ip

set_option maxHeartbeats 4000000
namespace Ip
open PySem L2
local macro_rules | `(tactic| walk_at "ev") => `(tactic| simp -implicitDefEqProofs only [v_c, v_var, v_varK, v_bin, v_binK1, v_binK2, v_pairK, v_un, v_unK, v_app, v_appK, v_call, v_callK, v_nil, v_cons, v_consK1, v_consK2, v_tup, v_tupK, v_lst, v_lstK, v_disp, v_dispK, v_ix, v_ixK1, v_ixP, v_ixT, v_ixL, at0, at1, at2, at3, at4, v_bl, v_blK, v_tru, v_truK, v_truN, v_mnot, v_notK, v_mand, v_andT, v_andF, v_mor, v_orT, v_orF, v_yes, v_xand, v_xandT, v_xandF, v_xor, v_xorT, v_xorF, v_xnot, v_xnotK, v_xif, v_xifT, v_xifF, v_ch, v_chK1, v_chK2, v_chT, v_chF, v_chK4, v_sli, v_sliK1, v_sliK2, v_sliT, v_sliL, v_onone, v_osome, v_osoK, v_iof, v_iofT, v_iofL, v_iarg, v_snil, v_seq, v_seqN, v_seqR, v_seqB, v_seqC, v_sif, v_ifT, v_ifF, v_ret, v_retK, v_asg, v_asgN, v_asgT, v_put0, v_put1, v_bk, v_ct, v_pool, v_poolK1, v_poolK2, v_pool1, v_pool2, v_pool3, v_for, v_forK, v_for0, v_for1, v_putN, v_forK1, v_forN, v_forC, v_forB, v_forR, v_par3, v_par3K1, v_par3K2, v_par3K3, v_par, v_parK1, v_parK2, v_vsh, v_vshK, v_run, v_runR, v_runN, v_comp, startE,
  o_add, o_sub, o_mul, o_mod, o_div, o_lt, o_le, o_gt, o_ge, o_int, o_neg, o_lenL, o_lenT, o_eqI, o_eqS, o_eqB, o_neI, o_neS, o_neB, o_tupL, o_tupT, o_addL, o_addT,
  List.map_cons, List.map_nil, List.length_cons, List.length_nil, List.cons_append, List.nil_append, List.append_nil, List.getElem?_cons_zero, List.getElem?_cons_succ, List.set_cons_zero, List.set_cons_succ, List.replicate_succ, List.replicate_zero, Nat.reduceAdd, Nat.reduceSub, Nat.reduceLeDiff, Int.reduceNeg, Int.reducePow, Int.reduceLT, Int.reduceLE, Int.reduceNe, Int.reduceEq, Int.reduceAdd, Int.natAbs, ne_eq, not_false_eq_true, and_true, true_and, and_self, decide_true, decide_false, Nat.reduceLT, Bool.not_true, Bool.not_false, w_t1_true, w_t1_is, w_t1_same, w_t1_not, w_t1_both, w_t1_either, w_t1_some, w_t1_each, w_t1_many, w_t2_true, w_t2_is, w_t2_same, w_t2_not, w_t2_both, w_t2_either, w_t2_some, w_t2_each, w_t2_many, w_t3_true, w_t3_is, w_t3_same, w_t3_not, w_t3_both, w_t3_either, w_t3_some, w_t3_each, w_t3_many, w_t4_true, w_t4_is, w_t4_same, w_t4_not, w_t4_both, w_t4_either, w_t4_some, w_t4_each, w_t4_many, w_t5_true, w_t5_is, w_t5_same, w_t5_not, w_t5_both, w_t5_either, w_t5_some, w_t5_each, w_t5_many, w_q_true_true, w_q_true_is, w_q_true_same, w_q_true_not, w_q_true_both, w_q_true_either, w_q_true_some, w_q_true_each, w_q_true_many, w_q_is_true, w_q_is_is, w_q_is_same, w_q_is_not, w_q_is_both, w_q_is_either, w_q_is_some, w_q_is_each, w_q_is_many, w_q_same_true, w_q_same_is, w_q_same_same, w_q_same_not, w_q_same_both, w_q_same_either, w_q_same_some, w_q_same_each, w_q_same_many, w_q_not_true, w_q_not_is, w_q_not_same, w_q_not_not, w_q_not_both, w_q_not_either, w_q_not_some, w_q_not_each, w_q_not_many, w_q_both_true, w_q_both_is, w_q_both_same, w_q_both_not, w_q_both_both, w_q_both_either, w_q_both_some, w_q_both_each, w_q_both_many, w_q_either_true, w_q_either_is, w_q_either_same, w_q_either_not, w_q_either_both, w_q_either_either, w_q_either_some, w_q_either_each, w_q_either_many, w_q_some_true, w_q_some_is, w_q_some_same, w_q_some_not, w_q_some_both, w_q_some_either, w_q_some_some, w_q_some_each, w_q_some_many, w_q_each_true, w_q_each_is, w_q_each_same, w_q_each_not, w_q_each_both, w_q_each_either, w_q_each_some, w_q_each_each, w_q_each_many, w_q_many_true, w_q_many_is, w_q_many_same, w_q_many_not, w_q_many_both, w_q_many_either, w_q_many_some, w_q_many_each, w_q_many_many, i_non_int, i_non_str, i_non_bool, i_non_tuple, i_non_list, n_non, nn_non, i_bl_int, i_bl_str, i_bl_bool, i_bl_tuple, i_bl_list, n_bl, nn_bl, i_int_int, i_int_str, i_int_bool, i_int_tuple, i_int_list, n_int, nn_int, i_str_int, i_str_str, i_str_bool, i_str_tuple, i_str_list, n_str, nn_str, i_tup_int, i_tup_str, i_tup_bool, i_tup_tuple, i_tup_list, n_tup, nn_tup, i_lst_int, i_lst_str, i_lst_bool, i_lst_tuple, i_lst_list, n_lst, nn_lst, i_dic_int, i_dic_str, i_dic_bool, i_dic_tuple, i_dic_list, n_dic, nn_dic])
local macro_rules | `(tactic| walk_at "evs") => `(tactic| simp -implicitDefEqProofs only [v_c, v_var, v_varK, v_bin, v_binK1, v_binK2, v_pairK, v_un, v_unK, v_app, v_appK, v_call, v_callK, v_nil, v_cons, v_consK1, v_consK2, v_tup, v_tupK, v_lst, v_lstK, v_disp, v_dispK, v_ix, v_ixK1, v_ixP, v_ixT, v_ixL, at0, at1, at2, at3, at4, v_bl, v_blK, v_tru, v_truK, v_truN, v_mnot, v_notK, v_mand, v_andT, v_andF, v_mor, v_orT, v_orF, v_yes, v_xand, v_xandT, v_xandF, v_xor, v_xorT, v_xorF, v_xnot, v_xnotK, v_xif, v_xifT, v_xifF, v_ch, v_chK1, v_chK2, v_chT, v_chF, v_chK4, v_sli, v_sliK1, v_sliK2, v_sliT, v_sliL, v_onone, v_osome, v_osoK, v_iof, v_iofT, v_iofL, v_iarg, v_snil, v_seq, v_seqN, v_seqR, v_seqB, v_seqC, v_sif, v_ifT, v_ifF, v_ret, v_retK, v_asg, v_asgN, v_asgT, v_put0, v_put1, v_bk, v_ct, v_pool, v_poolK1, v_poolK2, v_pool1, v_pool2, v_pool3, v_for, v_forK, v_for0, v_for1, v_putN, v_forK1, v_forN, v_forC, v_forB, v_forR, v_par3, v_par3K1, v_par3K2, v_par3K3, v_par, v_parK1, v_parK2, v_vsh, v_vshK, v_run, v_runR, v_runN, v_comp, startE,
  o_add, o_sub, o_mul, o_mod, o_div, o_lt, o_le, o_gt, o_ge, o_int, o_neg, o_lenL, o_lenT, o_eqI, o_eqS, o_eqB, o_neI, o_neS, o_neB, o_tupL, o_tupT, o_addL, o_addT,
  List.map_cons, List.map_nil, List.length_cons, List.length_nil, List.cons_append, List.nil_append, List.append_nil, List.getElem?_cons_zero, List.getElem?_cons_succ, List.set_cons_zero, List.set_cons_succ, List.replicate_succ, List.replicate_zero, Nat.reduceAdd, Nat.reduceSub, Nat.reduceLeDiff, Int.reduceNeg, Int.reducePow, Int.reduceLT, Int.reduceLE, Int.reduceNe, Int.reduceEq, Int.reduceAdd, Int.natAbs, ne_eq, not_false_eq_true, and_true, true_and, and_self, decide_true, decide_false, Nat.reduceLT, Bool.not_true, Bool.not_false, w_t1_true, w_t1_is, w_t1_same, w_t1_not, w_t1_both, w_t1_either, w_t1_some, w_t1_each, w_t1_many, w_t2_true, w_t2_is, w_t2_same, w_t2_not, w_t2_both, w_t2_either, w_t2_some, w_t2_each, w_t2_many, w_t3_true, w_t3_is, w_t3_same, w_t3_not, w_t3_both, w_t3_either, w_t3_some, w_t3_each, w_t3_many, w_t4_true, w_t4_is, w_t4_same, w_t4_not, w_t4_both, w_t4_either, w_t4_some, w_t4_each, w_t4_many, w_t5_true, w_t5_is, w_t5_same, w_t5_not, w_t5_both, w_t5_either, w_t5_some, w_t5_each, w_t5_many, w_q_true_true, w_q_true_is, w_q_true_same, w_q_true_not, w_q_true_both, w_q_true_either, w_q_true_some, w_q_true_each, w_q_true_many, w_q_is_true, w_q_is_is, w_q_is_same, w_q_is_not, w_q_is_both, w_q_is_either, w_q_is_some, w_q_is_each, w_q_is_many, w_q_same_true, w_q_same_is, w_q_same_same, w_q_same_not, w_q_same_both, w_q_same_either, w_q_same_some, w_q_same_each, w_q_same_many, w_q_not_true, w_q_not_is, w_q_not_same, w_q_not_not, w_q_not_both, w_q_not_either, w_q_not_some, w_q_not_each, w_q_not_many, w_q_both_true, w_q_both_is, w_q_both_same, w_q_both_not, w_q_both_both, w_q_both_either, w_q_both_some, w_q_both_each, w_q_both_many, w_q_either_true, w_q_either_is, w_q_either_same, w_q_either_not, w_q_either_both, w_q_either_either, w_q_either_some, w_q_either_each, w_q_either_many, w_q_some_true, w_q_some_is, w_q_some_same, w_q_some_not, w_q_some_both, w_q_some_either, w_q_some_some, w_q_some_each, w_q_some_many, w_q_each_true, w_q_each_is, w_q_each_same, w_q_each_not, w_q_each_both, w_q_each_either, w_q_each_some, w_q_each_each, w_q_each_many, w_q_many_true, w_q_many_is, w_q_many_same, w_q_many_not, w_q_many_both, w_q_many_either, w_q_many_some, w_q_many_each, w_q_many_many, i_non_int, i_non_str, i_non_bool, i_non_tuple, i_non_list, n_non, nn_non, i_bl_int, i_bl_str, i_bl_bool, i_bl_tuple, i_bl_list, n_bl, nn_bl, i_int_int, i_int_str, i_int_bool, i_int_tuple, i_int_list, n_int, nn_int, i_str_int, i_str_str, i_str_bool, i_str_tuple, i_str_list, n_str, nn_str, i_tup_int, i_tup_str, i_tup_bool, i_tup_tuple, i_tup_list, n_tup, nn_tup, i_lst_int, i_lst_str, i_lst_bool, i_lst_tuple, i_lst_list, n_lst, nn_lst, i_dic_int, i_dic_str, i_dic_bool, i_dic_tuple, i_dic_list, n_dic, nn_dic, *])

/-! ### _law_same of a thing and itself -/
inductive Pl : Nat → D → Prop where
  | non (n : Nat) : Pl n .non
  | bl (n : Nat) (b : Bool) : Pl n (.bl b)
  | int (n : Nat) (i : Int) : Pl n (.int i)
  | str (n : Nat) (x : Str) : Pl n (.str x)
  | tup (n : Nat) (xs : List D) : xs.length ≤ 1000 → (∀ x ∈ xs, Pl n x) → Pl (n + 1) (.tup xs)
  | lst (n : Nat) (xs : List D) : xs.length ≤ 1000 → (∀ x ∈ xs, Pl n x) → Pl (n + 1) (.lst xs)
theorem at_len {xs : List D} {k : Nat} (h : k < xs.length) : atI xs (0 + (k : Int)) = some xs[k] := by
  rw [Int.zero_add]
  exact atI_nat (List.getElem?_eq_getElem h)
theorem rng_irs {n : Nat} (h : n ≤ 1000) : rng1 [.int (n : Int)] = some (irs 0 n) := by
  have h1 : -(2 ^ 62) ≤ (n : Int) := Int.le_trans (by decide) (Int.natCast_nonneg n)
  have h2 : (n : Int) < 2 ^ 62 := Int.lt_of_le_of_lt (Int.ofNat_le.mpr h) (by decide)
  rw [rng1_of h1 h2, Int.toNat_natCast]
theorem same_key (R : RC) (S : List D) (xs : List D) (hx : ∀ x ∈ xs, R "_law_same" [x, x] S = some (.bl true, S)) (d : D) (hd : d = .tup xs ∨ d = .lst xs) :
    compL (.name 2) ((mNot (mTru (xCall "_law_same" (aCons (xIx (xVar 0) (xVar 2)) (aCons (xIx (xVar 1) (xVar 2)) aNil))))) R) ((xVar 2) R) (irs 0 xs.length) [some (.sh d), some (.sh d), none] S = some ([], S) := by
  unfold irs
  rw [comp_filterT (fun (k : Nat) => D.int (0 + (k : Int))) (fun k => D.int (0 + (k : Int))) (fun _ => false) (List.range xs.length) fun k hk => ?_]
  · rw [List.filter_eq_nil_iff.mpr (fun _ _ h => by cases h)]
    rfl
  · have hk' := List.mem_range.mp hk
    refine ⟨_, rfl, ?_, fun h => by cases h⟩
    rcases hd with rfl | rfl <;>
    · walk_at "ev"
      simp only [at_len hk']
      walk_at "ev"
      simp only [at_len hk']
      walk_at "ev"
      rw [hx _ (List.getElem_mem hk')]
      walk_at "ev"
theorem same_seq (R : RC) (S : List D) (xs : List D) (hl : xs.length ≤ 1000) (hx : ∀ x ∈ xs, R "_law_same" [x, x] S = some (.bl true, S)) (d : D) (hd : d = .tup xs ∨ d = .lst xs) : runB 3 (b__law_same R) [d, d] S = some (.bl true, S) := by
  have key := same_key R S xs hx d hd
  unfold b__law_same s__law_same_0
  rcases hd with rfl | rfl <;>
  · walk_at "ev"
    rw [v_iargK (rng_irs hl), v_compK (by rfl) (by rw [irs_length]; exact hl)]
    simp only [wipeE, List.set_cons_succ, List.set_cons_zero]
    rw [key]
    walk_at "ev"
    rfl
theorem same_body (R : RC) (S : List D) {n : Nat} {d : D} (h : Pl n d) (hx : ∀ m x, m + 1 = n → Pl m x → R "_law_same" [x, x] S = some (.bl true, S)) : runB 3 (b__law_same R) [d, d] S = some (.bl true, S) := by
  cases h with
  | tup n xs hl hp => exact same_seq R S xs hl (fun x hm => hx n x rfl (hp x hm)) _ (.inl rfl)
  | lst n xs hl hp => exact same_seq R S xs hl (fun x hm => hx n x rfl (hp x hm)) _ (.inr rfl)
  | non => unfold b__law_same s__law_same_0 s__law_same_1 s__law_same_2 s__law_same_3 s__law_same_4; walk_at "ev"
  | bl => unfold b__law_same s__law_same_0 s__law_same_1 s__law_same_2 s__law_same_3 s__law_same_4; walk_at "ev"
  | int => unfold b__law_same s__law_same_0 s__law_same_1 s__law_same_2 s__law_same_3 s__law_same_4; walk_at "ev"
  | str => unfold b__law_same s__law_same_0 s__law_same_1 s__law_same_2 s__law_same_3 s__law_same_4; walk_at "ev"
end Ip

set_option maxHeartbeats 4000000
namespace Ip
open PySem L2
local macro_rules | `(tactic| walk_at "ev") => `(tactic| simp -implicitDefEqProofs only [v_c, v_var, v_varK, v_bin, v_binK1, v_binK2, v_pairK, v_un, v_unK, v_app, v_appK, v_call, v_callK, v_nil, v_cons, v_consK1, v_consK2, v_tup, v_tupK, v_lst, v_lstK, v_disp, v_dispK, v_ix, v_ixK1, v_ixP, v_ixT, v_ixL, at0, at1, at2, at3, at4, v_bl, v_blK, v_tru, v_truK, v_truN, v_mnot, v_notK, v_mand, v_andT, v_andF, v_mor, v_orT, v_orF, v_yes, v_xand, v_xandT, v_xandF, v_xor, v_xorT, v_xorF, v_xnot, v_xnotK, v_xif, v_xifT, v_xifF, v_ch, v_chK1, v_chK2, v_chT, v_chF, v_chK4, v_sli, v_sliK1, v_sliK2, v_sliT, v_sliL, v_onone, v_osome, v_osoK, v_iof, v_iofT, v_iofL, v_iarg, v_snil, v_seq, v_seqN, v_seqR, v_seqB, v_seqC, v_sif, v_ifT, v_ifF, v_ret, v_retK, v_asg, v_asgN, v_asgT, v_put0, v_put1, v_bk, v_ct, v_pool, v_poolK1, v_poolK2, v_pool1, v_pool2, v_pool3, v_for, v_forK, v_for0, v_for1, v_putN, v_forK1, v_forN, v_forC, v_forB, v_forR, v_par3, v_par3K1, v_par3K2, v_par3K3, v_par, v_parK1, v_parK2, v_vsh, v_vshK, v_run, v_runR, v_runN, v_comp, startE,
  o_add, o_sub, o_mul, o_mod, o_div, o_lt, o_le, o_gt, o_ge, o_int, o_neg, o_lenL, o_lenT, o_eqI, o_eqS, o_eqB, o_neI, o_neS, o_neB, o_tupL, o_tupT, o_addL, o_addT,
  List.map_cons, List.map_nil, List.length_cons, List.length_nil, List.cons_append, List.nil_append, List.append_nil, List.getElem?_cons_zero, List.getElem?_cons_succ, List.set_cons_zero, List.set_cons_succ, List.replicate_succ, List.replicate_zero, Nat.reduceAdd, Nat.reduceSub, Nat.reduceLeDiff, Int.reduceNeg, Int.reducePow, Int.reduceLT, Int.reduceLE, Int.reduceNe, Int.reduceEq, Int.reduceAdd, Int.natAbs, ne_eq, not_false_eq_true, and_true, true_and, and_self, decide_true, decide_false, Nat.reduceLT, Bool.not_true, Bool.not_false, w_t1_true, w_t1_is, w_t1_same, w_t1_not, w_t1_both, w_t1_either, w_t1_some, w_t1_each, w_t1_many, w_t2_true, w_t2_is, w_t2_same, w_t2_not, w_t2_both, w_t2_either, w_t2_some, w_t2_each, w_t2_many, w_t3_true, w_t3_is, w_t3_same, w_t3_not, w_t3_both, w_t3_either, w_t3_some, w_t3_each, w_t3_many, w_t4_true, w_t4_is, w_t4_same, w_t4_not, w_t4_both, w_t4_either, w_t4_some, w_t4_each, w_t4_many, w_t5_true, w_t5_is, w_t5_same, w_t5_not, w_t5_both, w_t5_either, w_t5_some, w_t5_each, w_t5_many, w_q_true_true, w_q_true_is, w_q_true_same, w_q_true_not, w_q_true_both, w_q_true_either, w_q_true_some, w_q_true_each, w_q_true_many, w_q_is_true, w_q_is_is, w_q_is_same, w_q_is_not, w_q_is_both, w_q_is_either, w_q_is_some, w_q_is_each, w_q_is_many, w_q_same_true, w_q_same_is, w_q_same_same, w_q_same_not, w_q_same_both, w_q_same_either, w_q_same_some, w_q_same_each, w_q_same_many, w_q_not_true, w_q_not_is, w_q_not_same, w_q_not_not, w_q_not_both, w_q_not_either, w_q_not_some, w_q_not_each, w_q_not_many, w_q_both_true, w_q_both_is, w_q_both_same, w_q_both_not, w_q_both_both, w_q_both_either, w_q_both_some, w_q_both_each, w_q_both_many, w_q_either_true, w_q_either_is, w_q_either_same, w_q_either_not, w_q_either_both, w_q_either_either, w_q_either_some, w_q_either_each, w_q_either_many, w_q_some_true, w_q_some_is, w_q_some_same, w_q_some_not, w_q_some_both, w_q_some_either, w_q_some_some, w_q_some_each, w_q_some_many, w_q_each_true, w_q_each_is, w_q_each_same, w_q_each_not, w_q_each_both, w_q_each_either, w_q_each_some, w_q_each_each, w_q_each_many, w_q_many_true, w_q_many_is, w_q_many_same, w_q_many_not, w_q_many_both, w_q_many_either, w_q_many_some, w_q_many_each, w_q_many_many, i_non_int, i_non_str, i_non_bool, i_non_tuple, i_non_list, n_non, nn_non, i_bl_int, i_bl_str, i_bl_bool, i_bl_tuple, i_bl_list, n_bl, nn_bl, i_int_int, i_int_str, i_int_bool, i_int_tuple, i_int_list, n_int, nn_int, i_str_int, i_str_str, i_str_bool, i_str_tuple, i_str_list, n_str, nn_str, i_tup_int, i_tup_str, i_tup_bool, i_tup_tuple, i_tup_list, n_tup, nn_tup, i_lst_int, i_lst_str, i_lst_bool, i_lst_tuple, i_lst_list, n_lst, nn_lst, i_dic_int, i_dic_str, i_dic_bool, i_dic_tuple, i_dic_list, n_dic, nn_dic])
local macro_rules | `(tactic| walk_at "evs") => `(tactic| simp -implicitDefEqProofs only [v_c, v_var, v_varK, v_bin, v_binK1, v_binK2, v_pairK, v_un, v_unK, v_app, v_appK, v_call, v_callK, v_nil, v_cons, v_consK1, v_consK2, v_tup, v_tupK, v_lst, v_lstK, v_disp, v_dispK, v_ix, v_ixK1, v_ixP, v_ixT, v_ixL, at0, at1, at2, at3, at4, v_bl, v_blK, v_tru, v_truK, v_truN, v_mnot, v_notK, v_mand, v_andT, v_andF, v_mor, v_orT, v_orF, v_yes, v_xand, v_xandT, v_xandF, v_xor, v_xorT, v_xorF, v_xnot, v_xnotK, v_xif, v_xifT, v_xifF, v_ch, v_chK1, v_chK2, v_chT, v_chF, v_chK4, v_sli, v_sliK1, v_sliK2, v_sliT, v_sliL, v_onone, v_osome, v_osoK, v_iof, v_iofT, v_iofL, v_iarg, v_snil, v_seq, v_seqN, v_seqR, v_seqB, v_seqC, v_sif, v_ifT, v_ifF, v_ret, v_retK, v_asg, v_asgN, v_asgT, v_put0, v_put1, v_bk, v_ct, v_pool, v_poolK1, v_poolK2, v_pool1, v_pool2, v_pool3, v_for, v_forK, v_for0, v_for1, v_putN, v_forK1, v_forN, v_forC, v_forB, v_forR, v_par3, v_par3K1, v_par3K2, v_par3K3, v_par, v_parK1, v_parK2, v_vsh, v_vshK, v_run, v_runR, v_runN, v_comp, startE,
  o_add, o_sub, o_mul, o_mod, o_div, o_lt, o_le, o_gt, o_ge, o_int, o_neg, o_lenL, o_lenT, o_eqI, o_eqS, o_eqB, o_neI, o_neS, o_neB, o_tupL, o_tupT, o_addL, o_addT,
  List.map_cons, List.map_nil, List.length_cons, List.length_nil, List.cons_append, List.nil_append, List.append_nil, List.getElem?_cons_zero, List.getElem?_cons_succ, List.set_cons_zero, List.set_cons_succ, List.replicate_succ, List.replicate_zero, Nat.reduceAdd, Nat.reduceSub, Nat.reduceLeDiff, Int.reduceNeg, Int.reducePow, Int.reduceLT, Int.reduceLE, Int.reduceNe, Int.reduceEq, Int.reduceAdd, Int.natAbs, ne_eq, not_false_eq_true, and_true, true_and, and_self, decide_true, decide_false, Nat.reduceLT, Bool.not_true, Bool.not_false, w_t1_true, w_t1_is, w_t1_same, w_t1_not, w_t1_both, w_t1_either, w_t1_some, w_t1_each, w_t1_many, w_t2_true, w_t2_is, w_t2_same, w_t2_not, w_t2_both, w_t2_either, w_t2_some, w_t2_each, w_t2_many, w_t3_true, w_t3_is, w_t3_same, w_t3_not, w_t3_both, w_t3_either, w_t3_some, w_t3_each, w_t3_many, w_t4_true, w_t4_is, w_t4_same, w_t4_not, w_t4_both, w_t4_either, w_t4_some, w_t4_each, w_t4_many, w_t5_true, w_t5_is, w_t5_same, w_t5_not, w_t5_both, w_t5_either, w_t5_some, w_t5_each, w_t5_many, w_q_true_true, w_q_true_is, w_q_true_same, w_q_true_not, w_q_true_both, w_q_true_either, w_q_true_some, w_q_true_each, w_q_true_many, w_q_is_true, w_q_is_is, w_q_is_same, w_q_is_not, w_q_is_both, w_q_is_either, w_q_is_some, w_q_is_each, w_q_is_many, w_q_same_true, w_q_same_is, w_q_same_same, w_q_same_not, w_q_same_both, w_q_same_either, w_q_same_some, w_q_same_each, w_q_same_many, w_q_not_true, w_q_not_is, w_q_not_same, w_q_not_not, w_q_not_both, w_q_not_either, w_q_not_some, w_q_not_each, w_q_not_many, w_q_both_true, w_q_both_is, w_q_both_same, w_q_both_not, w_q_both_both, w_q_both_either, w_q_both_some, w_q_both_each, w_q_both_many, w_q_either_true, w_q_either_is, w_q_either_same, w_q_either_not, w_q_either_both, w_q_either_either, w_q_either_some, w_q_either_each, w_q_either_many, w_q_some_true, w_q_some_is, w_q_some_same, w_q_some_not, w_q_some_both, w_q_some_either, w_q_some_some, w_q_some_each, w_q_some_many, w_q_each_true, w_q_each_is, w_q_each_same, w_q_each_not, w_q_each_both, w_q_each_either, w_q_each_some, w_q_each_each, w_q_each_many, w_q_many_true, w_q_many_is, w_q_many_same, w_q_many_not, w_q_many_both, w_q_many_either, w_q_many_some, w_q_many_each, w_q_many_many, i_non_int, i_non_str, i_non_bool, i_non_tuple, i_non_list, n_non, nn_non, i_bl_int, i_bl_str, i_bl_bool, i_bl_tuple, i_bl_list, n_bl, nn_bl, i_int_int, i_int_str, i_int_bool, i_int_tuple, i_int_list, n_int, nn_int, i_str_int, i_str_str, i_str_bool, i_str_tuple, i_str_list, n_str, nn_str, i_tup_int, i_tup_str, i_tup_bool, i_tup_tuple, i_tup_list, n_tup, nn_tup, i_lst_int, i_lst_str, i_lst_bool, i_lst_tuple, i_lst_list, n_lst, nn_lst, i_dic_int, i_dic_str, i_dic_bool, i_dic_tuple, i_dic_list, n_dic, nn_dic, *])

/-! ### drawn formulas -/
def DrawOk (R : RC) : Prop := ∀ (S : List D) (many : Int), PV S → 0 < many → many < 1073741824 → ∃ (v : Int) (S' : List D), PV S' ∧ 0 ≤ v ∧ v < many ∧ R "_law_draw" [.pool, .int many] S = some (.int v, S')
def PickOk (R : RC) : Prop := ∀ (S : List D) (items : List D), PV S → items ≠ [] → items.length ≤ 1000 → ∃ (d : D) (S' : List D), d ∈ items ∧ PV S' ∧ R "_law_pick" [.pool, .lst items] S = some (d, S')
theorem at_int {xs : List D} {v : Int} (h0 : 0 ≤ v) (h : v < (xs.length : Int)) : ∃ d ∈ xs, atI xs v = some d := by
  have hk : v.toNat < xs.length := by omega
  have ek : v = ((v.toNat : Nat) : Int) := by omega
  have q : atI xs ((v.toNat : Nat) : Int) = some xs[v.toNat] := atI_nat (List.getElem?_eq_getElem hk)
  rw [← ek] at q
  exact ⟨xs[v.toNat], List.getElem_mem hk, q⟩
theorem pick_body (R : RC) (hd : DrawOk R) {S : List D} {items : List D} (h : PV S) (hn : items ≠ []) (hl : items.length ≤ 1000) : ∃ (d : D) (S' : List D), d ∈ items ∧ PV S' ∧ runB 2 (b__law_pick R) [.pool, .lst items] S = some (d, S') := by
  have hpos : 0 < items.length := List.length_pos_iff.mpr hn
  obtain ⟨v, S1, p1, v0, v1, e1⟩ := hd S items.length h (by omega) (by omega)
  obtain ⟨d, hm, e2⟩ := at_int v0 v1
  refine ⟨d, S1, hm, p1, ?_⟩
  unfold b__law_pick s__law_pick_0
  walk_at "ev"
  rw [e1]
  walk_at "ev"
  rw [e2]
  walk_at "ev"
def strsD (xs : List Str) : D := .lst (xs.map .str)
theorem pick_str {R : RC} (hp : PickOk R) {S : List D} (h : PV S) {xs : List Str} (hn : xs ≠ []) (hl : xs.length ≤ 1000) : ∃ (x : Str) (S' : List D), x ∈ xs ∧ PV S' ∧ R "_law_pick" [.pool, strsD xs] S = some (.str x, S') := by
  obtain ⟨d, S1, hm, p1, e⟩ := hp S (xs.map .str) h (by simpa using hn) (by simpa using hl)
  obtain ⟨x, hx, rfl⟩ := List.mem_map.mp hm
  exact ⟨x, S1, hx, p1, e⟩
def FGen (R : RC) (names kinds : List Str) (deep : Nat) : Prop := ∀ S, PV S → ∃ (φ : Fm) (S' : List D), PV S' ∧ φ.Ok kinds names ∧ φ.depth ≤ deep ∧ R "_law_formula" [.pool, strsD names, strsD kinds, .int deep] S = some (φ.toD, S')
def BGen (R : RC) (names kinds : List Str) (deep : Nat) : Prop := ∀ S, PV S → ∃ (φ : Fm) (S' : List D), PV S' ∧ φ.Ok kinds names ∧ φ.depth ≤ deep ∧ R "_law_bound" [.pool, strsD names, strsD kinds, .int deep] S = some (φ.toD, S')
theorem deep1 {n : Nat} : ((n + 1 : Nat) : Int) - 1 = (n : Int) := by omega
theorem bound_body (R : RC) (hd : DrawOk R) (hp : PickOk R) {names kinds : List Str} {n : Nat} (hl : names.length ≤ 500) (hf : ∀ x : Str, FGen R (names ++ [x]) kinds n) {S : List D} (h : PV S) :
    ∃ (φ : Fm) (S' : List D), PV S' ∧ φ.Ok kinds names ∧ φ.depth ≤ n + 1 ∧ runB 7 (b__law_bound R) [.pool, strsD names, strsD kinds, .int ((n + 1 : Nat) : Int)] S = some (φ.toD, S') := by
  obtain ⟨x, S1, hx, p1, e1⟩ := pick_str hp h (xs := ["x", "y", "z"]) (by simp) (by simp)
  obtain ⟨φ, S2, p2, o2, d2, e2⟩ := hf x S1 p1
  obtain ⟨t, S3, p3, t0, t1, e3⟩ := hd S2 7 p2 (by decide) (by decide)
  have e1' : R "_law_pick" [.pool, .lst [.str "x", .str "y", .str "z"]] S = some (.str x, S1) := e1
  have e2' : R "_law_formula" [.pool, .lst (names.map D.str ++ [.str x]), strsD kinds, .int (((n + 1 : Nat) : Int) - 1)] S1 = some (φ.toD, S2) := by
    rw [deep1]
    have q : strsD (names ++ [x]) = .lst (names.map D.str ++ [.str x]) := by unfold strsD; simp
    rw [← q]
    exact e2
  have ea : addD (strsD names) (.lst [.str x]) = some (.lst (names.map D.str ++ [.str x])) := o_addL (by simp; omega)
  unfold b__law_bound s__law_bound_0 s__law_bound_1 s__law_bound_2 s__law_bound_3 s__law_bound_4
  walk_at "ev"
  rw [e1']
  walk_at "ev"
  rw [ea]
  walk_at "ev"
  rw [e2']
  walk_at "ev"
  rw [e3]
  walk_at "ev"
  by_cases h3 : t < 3
  · simp only [h3, decide_true]
    walk_at "ev"
    exact ⟨.some x φ, S3, p3, ⟨hx, o2⟩, by simp only [Fm.depth]; omega, rfl⟩
  · simp only [h3, decide_false]
    walk_at "ev"
    by_cases h5 : t < 5
    · simp only [h5, decide_true]
      walk_at "ev"
      exact ⟨.each x φ, S3, p3, ⟨hx, o2⟩, by simp only [Fm.depth]; omega, rfl⟩
    · simp only [h5, decide_false]
      obtain ⟨m, S4, p4, m0, m1, e4⟩ := hd S3 3 p3 (by decide) (by decide)
      walk_at "ev"
      rw [e4]
      walk_at "ev"
      exact ⟨.many (m + 1) x φ, S4, p4, ⟨⟨by omega, by omega⟩, hx, o2⟩, by simp only [Fm.depth]; omega, rfl⟩
theorem formula_body (R : RC) (hd : DrawOk R) (hp : PickOk R) {names kinds : List Str} {n : Nat} (hn : names ≠ []) (hk : kinds ≠ []) (hl : names.length ≤ 500) (hlk : kinds.length ≤ 500) (hf : ∀ m, n = m + 1 → FGen R names kinds m) (hb : 0 < n → BGen R names kinds n) {S : List D} (h : PV S) :
    ∃ (φ : Fm) (S' : List D), PV S' ∧ φ.Ok kinds names ∧ φ.depth ≤ n ∧ runB 6 (b__law_formula R) [.pool, strsD names, strsD kinds, .int (n : Int)] S = some (φ.toD, S') := by
  have first : ∃ (t : Int) (S1 : List D), PV S1 ∧ 0 ≤ t ∧ (n = 0 → t < 3) ∧ s__law_formula_0 R [some (.sh .pool), some (.sh (strsD names)), some (.sh (strsD kinds)), some (.sh (.int n)), none, none] S =
      some (.nx, [some (.sh .pool), some (.sh (strsD names)), some (.sh (strsD kinds)), some (.sh (.int n)), some (.sh (.int t)), none], S1) := by
    unfold s__law_formula_0
    walk_at "ev"
    by_cases hz : n = 0
    · subst hz
      obtain ⟨t, S1, p1, t0, t1, e1⟩ := hd S 3 h (by decide) (by decide)
      simp only [Int.natCast_zero, Int.lt_irrefl, decide_false]
      walk_at "ev"
      rw [e1]
      walk_at "ev"
      exact ⟨t, S1, p1, t0, fun _ => t1, rfl⟩
    · obtain ⟨t, S1, p1, t0, t1, e1⟩ := hd S 12 h (by decide) (by decide)
      simp only [show (0 : Int) < (n : Int) by omega, decide_true]
      walk_at "ev"
      rw [e1]
      walk_at "ev"
      exact ⟨t, S1, p1, t0, fun z => absurd z hz, rfl⟩
  obtain ⟨t, S1, p1, t0, tz, e1⟩ := first
  unfold b__law_formula
  walk_at "ev"
  rw [e1]
  walk_at "ev"
  unfold s__law_formula_1
  by_cases h3 : t < 3
  · walk_at "ev"
    simp only [h3, decide_true]
    walk_at "ev"
    obtain ⟨u, S2, p2, u0, u1, e2⟩ := hd S1 2 p1 (by decide) (by decide)
    have isCase : ∀ S2, PV S2 → ∃ (φ : Fm) (S' : List D), PV S' ∧ φ.Ok kinds names ∧ φ.depth ≤ n ∧ ∃ k S3, R "_law_pick" [.pool, strsD kinds] S2 = some (.str k, S3) ∧ ∃ x, R "_law_pick" [.pool, strsD names] S3 = some (.str x, S') ∧ φ = .is k x := fun S2 p2 => by
      obtain ⟨k, S3, hk3, p3, e3⟩ := pick_str hp p2 hk (by omega)
      obtain ⟨x, S4, hx4, p4, e4⟩ := pick_str hp p3 hn (by omega)
      exact ⟨.is k x, S4, p4, ⟨hk3, hx4⟩, Nat.zero_le _, k, S3, e3, x, e4, rfl⟩
    by_cases hz : t = 0
    · simp only [hz, decide_true]
      walk_at "ev"
      rw [e2]
      walk_at "ev"
      by_cases hu : u = 0
      · simp only [hu, decide_true]
        walk_at "ev"
        obtain ⟨x, S3, hx3, p3, e3⟩ := pick_str hp p2 hn (by omega)
        obtain ⟨y, S4, hy4, p4, e4⟩ := pick_str hp p3 hn (by omega)
        rw [e3]
        walk_at "ev"
        rw [e4]
        walk_at "ev"
        exact ⟨.same x y, S4, p4, ⟨hx3, hy4⟩, Nat.zero_le _, rfl⟩
      · simp only [hu, decide_false]
        walk_at "ev"
        obtain ⟨φ, S', p', o', d', k, S3, e3, x, e4, rfl⟩ := isCase S2 p2
        rw [e3]
        walk_at "ev"
        rw [e4]
        walk_at "ev"
        exact ⟨_, S', p', o', d', rfl⟩
    · simp only [hz, decide_false]
      walk_at "ev"
      obtain ⟨φ, S', p', o', d', k, S3, e3, x, e4, rfl⟩ := isCase S1 p1
      rw [e3]
      walk_at "ev"
      rw [e4]
      walk_at "ev"
      exact ⟨_, S', p', o', d', rfl⟩
  · walk_at "ev"
    simp only [h3, decide_false]
    walk_at "ev"
    obtain ⟨m, rfl⟩ : ∃ m, n = m + 1 := ⟨n - 1, by
      have : n ≠ 0 := fun z => h3 (tz z)
      omega⟩
    have hfm := hf m rfl
    unfold s__law_formula_2
    by_cases h5 : t < 5
    · obtain ⟨φ, S2, p2, o2, d2, e2⟩ := hfm S1 p1
      walk_at "ev"
      simp only [h5, decide_true]
      walk_at "ev"
      rw [deep1, e2]
      walk_at "ev"
      exact ⟨.not φ, S2, p2, o2, by simp only [Fm.depth]; omega, rfl⟩
    · walk_at "ev"
      simp only [h5, decide_false]
      walk_at "ev"
      unfold s__law_formula_3
      by_cases h8 : t < 8
      · obtain ⟨φ, S2, p2, o2, d2, e2⟩ := hfm S1 p1
        obtain ⟨w, S3, hw, p3, e3⟩ := pick_str hp p2 (xs := ["both", "either"]) (by simp) (by simp)
        have e3' : R "_law_pick" [.pool, .lst [.str "both", .str "either"]] S2 = some (.str w, S3) := e3
        obtain ⟨ψ, S4, p4, o4, d4, e4⟩ := hfm S3 p3
        walk_at "ev"
        simp only [h8, decide_true]
        walk_at "ev"
        rw [deep1, e2]
        walk_at "ev"
        rw [e3']
        walk_at "ev"
        rw [deep1, e4]
        walk_at "ev"
        rcases List.mem_cons.mp hw with rfl | hw
        · exact ⟨.both φ ψ, S4, p4, ⟨o2, o4⟩, by simp only [Fm.depth]; omega, rfl⟩
        · rcases List.mem_cons.mp hw with rfl | hw
          · exact ⟨.either φ ψ, S4, p4, ⟨o2, o4⟩, by simp only [Fm.depth]; omega, rfl⟩
          · cases hw
      · walk_at "ev"
        simp only [h8, decide_false]
        walk_at "ev"
        unfold s__law_formula_4
        walk_at "ev"
        obtain ⟨φ, S2, p2, o2, d2, e2⟩ := hb (Nat.succ_pos m) S1 p1
        rw [e2]
        walk_at "ev"
        exact ⟨φ, S2, p2, o2, d2, rfl⟩
def SGen (R : RC) (kinds : List Str) (deep : Nat) : Prop := ∀ S, PV S → ∃ (φ : Fm) (S' : List D), PV S' ∧ φ.Ok kinds [] ∧ φ.depth ≤ deep + 2 ∧ φ.rank < 4 ∧ R "_law_sentence" [.pool, strsD kinds, .int deep] S = some (φ.toD, S')
theorem sentence_body (R : RC) (hd : DrawOk R) (hp : PickOk R) {kinds : List Str} {n : Nat} (hk : kinds ≠ []) (hlk : kinds.length ≤ 500) (hb : BGen R [] kinds (n + 2)) (hb1 : BGen R [] kinds (n + 1)) (hr : ∀ (φ : Fm) S, φ.depth ≤ n + 4 → R "_law_rank" [φ.toD] S = some (.int φ.rank, S)) {S : List D} (h : PV S) :
    ∃ (φ : Fm) (S' : List D), PV S' ∧ φ.Ok kinds [] ∧ φ.depth ≤ n + 4 ∧ φ.rank < 4 ∧ runB 4 (b__law_sentence R) [.pool, strsD kinds, .int ((n + 2 : Nat) : Int)] S = some (φ.toD, S') := by
  have nil : strsD [] = .lst [] := rfl
  obtain ⟨φ, S1, p1, o1, d1, e1⟩ := hb S h
  rw [nil] at e1
  have st1 : ∃ (ψ : Fm) (S2 : List D), PV S2 ∧ ψ.Ok kinds [] ∧ ψ.depth ≤ n + 3 ∧ s__law_sentence_1 R [some (.sh .pool), some (.sh (strsD kinds)), some (.sh (.int ((n + 2 : Nat) : Int))), some (.sh φ.toD)] S1 =
      some (.nx, [some (.sh .pool), some (.sh (strsD kinds)), some (.sh (.int ((n + 2 : Nat) : Int))), some (.sh ψ.toD)], S2) := by
    unfold s__law_sentence_1
    obtain ⟨t, S2, p2, t0, t1, e2⟩ := hd S1 5 p1 (by decide) (by decide)
    walk_at "ev"
    rw [e2]
    walk_at "ev"
    by_cases hz : t = 0
    · simp only [hz, decide_true]
      walk_at "ev"
      obtain ⟨w, S3, hw, p3, e3⟩ := pick_str hp p2 (xs := ["both", "either"]) (by simp) (by simp)
      have e3' : R "_law_pick" [.pool, .lst [.str "both", .str "either"]] S2 = some (.str w, S3) := e3
      obtain ⟨ψ, S4, p4, o4, d4, e4⟩ := hb1 S3 p3
      rw [nil] at e4
      rw [e3']
      walk_at "ev"
      rw [show ((n + 2 : Nat) : Int) - 1 = ((n + 1 : Nat) : Int) by omega, e4]
      walk_at "ev"
      rcases List.mem_cons.mp hw with rfl | hw
      · exact ⟨.both φ ψ, S4, p4, ⟨o1, o4⟩, by simp only [Fm.depth]; omega, rfl⟩
      · rcases List.mem_cons.mp hw with rfl | hw
        · exact ⟨.either φ ψ, S4, p4, ⟨o1, o4⟩, by simp only [Fm.depth]; omega, rfl⟩
        · cases hw
    · simp only [hz, decide_false]
      walk_at "ev"
      exact ⟨φ, S2, p2, o1, by omega, rfl⟩
  obtain ⟨ψ, S2, p2, o2, d2, e2⟩ := st1
  have st2 : ∃ (χ : Fm) (S3 : List D), PV S3 ∧ χ.Ok kinds [] ∧ χ.depth ≤ n + 4 ∧ s__law_sentence_2 R [some (.sh .pool), some (.sh (strsD kinds)), some (.sh (.int ((n + 2 : Nat) : Int))), some (.sh ψ.toD)] S2 =
      some (.nx, [some (.sh .pool), some (.sh (strsD kinds)), some (.sh (.int ((n + 2 : Nat) : Int))), some (.sh χ.toD)], S3) := by
    unfold s__law_sentence_2
    obtain ⟨t, S3, p3, t0, t1, e3⟩ := hd S2 5 p2 (by decide) (by decide)
    walk_at "ev"
    rw [e3]
    walk_at "ev"
    by_cases hz : t = 0
    · simp only [hz, decide_true]
      walk_at "ev"
      exact ⟨.not ψ, S3, p3, o2, by simp only [Fm.depth]; omega, rfl⟩
    · simp only [hz, decide_false]
      walk_at "ev"
      exact ⟨ψ, S3, p3, o2, by omega, rfl⟩
  obtain ⟨χ, S3, p3, o3, d3, e3⟩ := st2
  unfold b__law_sentence s__law_sentence_0
  walk_at "ev"
  rw [e1]
  walk_at "ev"
  rw [e2]
  walk_at "ev"
  rw [e3]
  walk_at "ev"
  unfold s__law_sentence_3
  walk_at "ev"
  rw [hr χ S3 d3]
  walk_at "ev"
  by_cases h4 : χ.rank < 4
  · simp only [h4, decide_true]
    walk_at "ev"
    exact ⟨χ, S3, p3, o3, d3, h4, rfl⟩
  · simp only [h4, decide_false]
    walk_at "ev"
    obtain ⟨m, S4, p4, m0, m1, e4⟩ := hd S3 4 p3 (by decide) (by decide)
    rw [e4]
    walk_at "ev"
    obtain ⟨k, S5, hk5, p5, e5⟩ := pick_str hp p4 hk (by omega)
    rw [e5]
    walk_at "ev"
    exact ⟨.many m "x" (.is k "x"), S5, p5, ⟨⟨by omega, by omega⟩, by simp, hk5, by simp⟩, by simp only [Fm.depth]; omega, by simp only [Fm.rank]; omega, rfl⟩
/-- theories -/
def thD (fs : List Fm) : D := .tup (fs.map Fm.toD)
theorem theory_body (R : RC) (hd : DrawOk R) {kinds : List Str} {n most : Nat} (hm : most ≤ 100) (hs : SGen R kinds n) {S : List D} (h : PV S) :
    ∃ (fs : List Fm) (S' : List D), PV S' ∧ fs.length ≤ most ∧ (∀ φ ∈ fs, φ.Ok kinds [] ∧ φ.depth ≤ n + 2 ∧ φ.rank < 4) ∧ runB 5 (b__law_theory R) [.pool, strsD kinds, .int (most : Int), .int (n : Int)] S = some (thD fs, S') := by
  obtain ⟨t, S1, p1, t0, t1, e1⟩ := hd S (most + 1) h (by omega) (by omega)
  obtain ⟨m, rfl⟩ : ∃ m : Nat, t = (m : Int) := ⟨t.toNat, by omega⟩
  obtain ⟨ds, S2, e2, p2, l2, q2⟩ := comp_any (t := .name 4) (tt := mYes R) (f := (xCall "_law_sentence" (aCons (xVar 0) (aCons (xVar 1) (aCons (xVar 3) aNil)))) R) (env := [some (.sh .pool), some (.sh (strsD kinds)), some (.sh (.int most)), some (.sh (.int n)), none])
    (fun (k : Nat) => D.int (0 + (k : Int))) PV (fun d => ∃ φ : Fm, d = φ.toD ∧ φ.Ok kinds [] ∧ φ.depth ≤ n + 2 ∧ φ.rank < 4) (List.range m) S1 p1 fun x hx S pS => by
      obtain ⟨φ, S', p', o', d', r', e'⟩ := hs S pS
      refine ⟨_, rfl, rfl, φ.toD, S', ?_, p', φ, rfl, o', d', r'⟩
      walk_at "ev"
      exact e'
  have hfs : ∃ fs : List Fm, ds = fs.map Fm.toD ∧ ∀ φ ∈ fs, φ.Ok kinds [] ∧ φ.depth ≤ n + 2 ∧ φ.rank < 4 := by
    clear e2 l2
    induction ds with
    | nil => exact ⟨[], rfl, fun _ h => by cases h⟩
    | cons d ds ih =>
      obtain ⟨φ, rfl, hφ⟩ := q2 d List.mem_cons_self
      obtain ⟨fs, rfl, hfs⟩ := ih fun x hx => q2 x (List.mem_cons_of_mem _ hx)
      refine ⟨φ :: fs, rfl, fun ψ hψ => ?_⟩
      rcases List.mem_cons.mp hψ with rfl | hψ
      · exact hφ
      · exact hfs ψ hψ
  obtain ⟨fs, rfl, hfs⟩ := hfs
  have hlen : fs.length = m := by
    have := l2
    rw [List.length_map, List.length_range] at this
    exact this
  refine ⟨fs, S2, p2, by omega, hfs, ?_⟩
  unfold b__law_theory s__law_theory_0
  walk_at "ev"
  rw [e1]
  walk_at "ev"
  rw [v_iargK (rng_irs (show m ≤ 1000 by omega)), v_compK (by rfl) (by rw [irs_length]; omega)]
  unfold irs
  simp only [wipeE, List.set_cons_succ, List.set_cons_zero]
  rw [e2]
  walk_at "ev"
  rfl
/-- limits -/
def limit (fs : List Fm) : Int := (fs.map Fm.rank).foldl max 1
theorem limit_body (R : RC) (S : List D) (fs : List Fm) (hl : fs.length ≤ 900) (hr : ∀ f ∈ fs, R "rank_of" [f.toD] S = some (.int f.rank, S)) : runB 2 (b_limit_of R) [thD fs] S = some (.int (limit fs), S) := by
  unfold b_limit_of s_limit_of_0 thD
  walk_at "ev"
  rw [v_compK (by rfl) (by simp; omega), comp_mapT Fm.toD (fun g => D.int g.rank) fs fun g hg => ⟨_, rfl, rfl, by walk_at "ev"; exact hr g hg⟩]
  walk_at "ev"
  rw [o_addL (by simp; omega)]
  walk_at "ev"
  have hm : (fs.map fun g => D.int g.rank) = (fs.map Fm.rank).map D.int := by rw [List.map_map]; rfl
  rw [hm, max_ok]
  walk_at "ev"
  rfl
theorem llimit_body (R : RC) (S : List D) (fs : List Fm) (hl : fs.length ≤ 900) (hr : ∀ f ∈ fs, R "_law_rank" [f.toD] S = some (.int f.rank, S)) : runB 2 (b__law_limit R) [thD fs] S = some (.int (limit fs), S) := by
  unfold b__law_limit s__law_limit_0 thD
  walk_at "ev"
  rw [v_compK (by rfl) (by simp; omega), comp_mapT Fm.toD (fun g => D.int g.rank) fs fun g hg => ⟨_, rfl, rfl, by walk_at "ev"; exact hr g hg⟩]
  walk_at "ev"
  rw [o_addL (by simp; omega)]
  walk_at "ev"
  have hm : (fs.map fun g => D.int g.rank) = (fs.map Fm.rank).map D.int := by rw [List.map_map]; rfl
  rw [hm, max_ok]
  walk_at "ev"
  rfl
end Ip

set_option maxHeartbeats 4000000
namespace Ip
open PySem L2
local macro_rules | `(tactic| walk_at "ev") => `(tactic| simp -implicitDefEqProofs only [v_c, v_var, v_varK, v_bin, v_binK1, v_binK2, v_pairK, v_un, v_unK, v_app, v_appK, v_call, v_callK, v_nil, v_cons, v_consK1, v_consK2, v_tup, v_tupK, v_lst, v_lstK, v_disp, v_dispK, v_ix, v_ixK1, v_ixP, v_ixT, v_ixL, at0, at1, at2, at3, at4, v_bl, v_blK, v_tru, v_truK, v_truN, v_mnot, v_notK, v_mand, v_andT, v_andF, v_mor, v_orT, v_orF, v_yes, v_xand, v_xandT, v_xandF, v_xor, v_xorT, v_xorF, v_xnot, v_xnotK, v_xif, v_xifT, v_xifF, v_ch, v_chK1, v_chK2, v_chT, v_chF, v_chK4, v_sli, v_sliK1, v_sliK2, v_sliT, v_sliL, v_onone, v_osome, v_osoK, v_iof, v_iofT, v_iofL, v_iarg, v_snil, v_seq, v_seqN, v_seqR, v_seqB, v_seqC, v_sif, v_ifT, v_ifF, v_ret, v_retK, v_asg, v_asgN, v_asgT, v_put0, v_put1, v_bk, v_ct, v_pool, v_poolK1, v_poolK2, v_pool1, v_pool2, v_pool3, v_for, v_forK, v_for0, v_for1, v_putN, v_forK1, v_forN, v_forC, v_forB, v_forR, v_par3, v_par3K1, v_par3K2, v_par3K3, v_par, v_parK1, v_parK2, v_vsh, v_vshK, v_run, v_runR, v_runN, v_comp, startE,
  o_add, o_sub, o_mul, o_mod, o_div, o_lt, o_le, o_gt, o_ge, o_int, o_neg, o_lenL, o_lenT, o_eqI, o_eqS, o_eqB, o_neI, o_neS, o_neB, o_tupL, o_tupT, o_addL, o_addT,
  List.map_cons, List.map_nil, List.length_cons, List.length_nil, List.cons_append, List.nil_append, List.append_nil, List.getElem?_cons_zero, List.getElem?_cons_succ, List.set_cons_zero, List.set_cons_succ, List.replicate_succ, List.replicate_zero, Nat.reduceAdd, Nat.reduceSub, Nat.reduceLeDiff, Int.reduceNeg, Int.reducePow, Int.reduceLT, Int.reduceLE, Int.reduceNe, Int.reduceEq, Int.reduceAdd, Int.natAbs, ne_eq, not_false_eq_true, and_true, true_and, and_self, decide_true, decide_false, Nat.reduceLT, Bool.not_true, Bool.not_false, w_t1_true, w_t1_is, w_t1_same, w_t1_not, w_t1_both, w_t1_either, w_t1_some, w_t1_each, w_t1_many, w_t2_true, w_t2_is, w_t2_same, w_t2_not, w_t2_both, w_t2_either, w_t2_some, w_t2_each, w_t2_many, w_t3_true, w_t3_is, w_t3_same, w_t3_not, w_t3_both, w_t3_either, w_t3_some, w_t3_each, w_t3_many, w_t4_true, w_t4_is, w_t4_same, w_t4_not, w_t4_both, w_t4_either, w_t4_some, w_t4_each, w_t4_many, w_t5_true, w_t5_is, w_t5_same, w_t5_not, w_t5_both, w_t5_either, w_t5_some, w_t5_each, w_t5_many, w_q_true_true, w_q_true_is, w_q_true_same, w_q_true_not, w_q_true_both, w_q_true_either, w_q_true_some, w_q_true_each, w_q_true_many, w_q_is_true, w_q_is_is, w_q_is_same, w_q_is_not, w_q_is_both, w_q_is_either, w_q_is_some, w_q_is_each, w_q_is_many, w_q_same_true, w_q_same_is, w_q_same_same, w_q_same_not, w_q_same_both, w_q_same_either, w_q_same_some, w_q_same_each, w_q_same_many, w_q_not_true, w_q_not_is, w_q_not_same, w_q_not_not, w_q_not_both, w_q_not_either, w_q_not_some, w_q_not_each, w_q_not_many, w_q_both_true, w_q_both_is, w_q_both_same, w_q_both_not, w_q_both_both, w_q_both_either, w_q_both_some, w_q_both_each, w_q_both_many, w_q_either_true, w_q_either_is, w_q_either_same, w_q_either_not, w_q_either_both, w_q_either_either, w_q_either_some, w_q_either_each, w_q_either_many, w_q_some_true, w_q_some_is, w_q_some_same, w_q_some_not, w_q_some_both, w_q_some_either, w_q_some_some, w_q_some_each, w_q_some_many, w_q_each_true, w_q_each_is, w_q_each_same, w_q_each_not, w_q_each_both, w_q_each_either, w_q_each_some, w_q_each_each, w_q_each_many, w_q_many_true, w_q_many_is, w_q_many_same, w_q_many_not, w_q_many_both, w_q_many_either, w_q_many_some, w_q_many_each, w_q_many_many, i_non_int, i_non_str, i_non_bool, i_non_tuple, i_non_list, n_non, nn_non, i_bl_int, i_bl_str, i_bl_bool, i_bl_tuple, i_bl_list, n_bl, nn_bl, i_int_int, i_int_str, i_int_bool, i_int_tuple, i_int_list, n_int, nn_int, i_str_int, i_str_str, i_str_bool, i_str_tuple, i_str_list, n_str, nn_str, i_tup_int, i_tup_str, i_tup_bool, i_tup_tuple, i_tup_list, n_tup, nn_tup, i_lst_int, i_lst_str, i_lst_bool, i_lst_tuple, i_lst_list, n_lst, nn_lst, i_dic_int, i_dic_str, i_dic_bool, i_dic_tuple, i_dic_list, n_dic, nn_dic])
local macro_rules | `(tactic| walk_at "evs") => `(tactic| simp -implicitDefEqProofs only [v_c, v_var, v_varK, v_bin, v_binK1, v_binK2, v_pairK, v_un, v_unK, v_app, v_appK, v_call, v_callK, v_nil, v_cons, v_consK1, v_consK2, v_tup, v_tupK, v_lst, v_lstK, v_disp, v_dispK, v_ix, v_ixK1, v_ixP, v_ixT, v_ixL, at0, at1, at2, at3, at4, v_bl, v_blK, v_tru, v_truK, v_truN, v_mnot, v_notK, v_mand, v_andT, v_andF, v_mor, v_orT, v_orF, v_yes, v_xand, v_xandT, v_xandF, v_xor, v_xorT, v_xorF, v_xnot, v_xnotK, v_xif, v_xifT, v_xifF, v_ch, v_chK1, v_chK2, v_chT, v_chF, v_chK4, v_sli, v_sliK1, v_sliK2, v_sliT, v_sliL, v_onone, v_osome, v_osoK, v_iof, v_iofT, v_iofL, v_iarg, v_snil, v_seq, v_seqN, v_seqR, v_seqB, v_seqC, v_sif, v_ifT, v_ifF, v_ret, v_retK, v_asg, v_asgN, v_asgT, v_put0, v_put1, v_bk, v_ct, v_pool, v_poolK1, v_poolK2, v_pool1, v_pool2, v_pool3, v_for, v_forK, v_for0, v_for1, v_putN, v_forK1, v_forN, v_forC, v_forB, v_forR, v_par3, v_par3K1, v_par3K2, v_par3K3, v_par, v_parK1, v_parK2, v_vsh, v_vshK, v_run, v_runR, v_runN, v_comp, startE,
  o_add, o_sub, o_mul, o_mod, o_div, o_lt, o_le, o_gt, o_ge, o_int, o_neg, o_lenL, o_lenT, o_eqI, o_eqS, o_eqB, o_neI, o_neS, o_neB, o_tupL, o_tupT, o_addL, o_addT,
  List.map_cons, List.map_nil, List.length_cons, List.length_nil, List.cons_append, List.nil_append, List.append_nil, List.getElem?_cons_zero, List.getElem?_cons_succ, List.set_cons_zero, List.set_cons_succ, List.replicate_succ, List.replicate_zero, Nat.reduceAdd, Nat.reduceSub, Nat.reduceLeDiff, Int.reduceNeg, Int.reducePow, Int.reduceLT, Int.reduceLE, Int.reduceNe, Int.reduceEq, Int.reduceAdd, Int.natAbs, ne_eq, not_false_eq_true, and_true, true_and, and_self, decide_true, decide_false, Nat.reduceLT, Bool.not_true, Bool.not_false, w_t1_true, w_t1_is, w_t1_same, w_t1_not, w_t1_both, w_t1_either, w_t1_some, w_t1_each, w_t1_many, w_t2_true, w_t2_is, w_t2_same, w_t2_not, w_t2_both, w_t2_either, w_t2_some, w_t2_each, w_t2_many, w_t3_true, w_t3_is, w_t3_same, w_t3_not, w_t3_both, w_t3_either, w_t3_some, w_t3_each, w_t3_many, w_t4_true, w_t4_is, w_t4_same, w_t4_not, w_t4_both, w_t4_either, w_t4_some, w_t4_each, w_t4_many, w_t5_true, w_t5_is, w_t5_same, w_t5_not, w_t5_both, w_t5_either, w_t5_some, w_t5_each, w_t5_many, w_q_true_true, w_q_true_is, w_q_true_same, w_q_true_not, w_q_true_both, w_q_true_either, w_q_true_some, w_q_true_each, w_q_true_many, w_q_is_true, w_q_is_is, w_q_is_same, w_q_is_not, w_q_is_both, w_q_is_either, w_q_is_some, w_q_is_each, w_q_is_many, w_q_same_true, w_q_same_is, w_q_same_same, w_q_same_not, w_q_same_both, w_q_same_either, w_q_same_some, w_q_same_each, w_q_same_many, w_q_not_true, w_q_not_is, w_q_not_same, w_q_not_not, w_q_not_both, w_q_not_either, w_q_not_some, w_q_not_each, w_q_not_many, w_q_both_true, w_q_both_is, w_q_both_same, w_q_both_not, w_q_both_both, w_q_both_either, w_q_both_some, w_q_both_each, w_q_both_many, w_q_either_true, w_q_either_is, w_q_either_same, w_q_either_not, w_q_either_both, w_q_either_either, w_q_either_some, w_q_either_each, w_q_either_many, w_q_some_true, w_q_some_is, w_q_some_same, w_q_some_not, w_q_some_both, w_q_some_either, w_q_some_some, w_q_some_each, w_q_some_many, w_q_each_true, w_q_each_is, w_q_each_same, w_q_each_not, w_q_each_both, w_q_each_either, w_q_each_some, w_q_each_each, w_q_each_many, w_q_many_true, w_q_many_is, w_q_many_same, w_q_many_not, w_q_many_both, w_q_many_either, w_q_many_some, w_q_many_each, w_q_many_many, i_non_int, i_non_str, i_non_bool, i_non_tuple, i_non_list, n_non, nn_non, i_bl_int, i_bl_str, i_bl_bool, i_bl_tuple, i_bl_list, n_bl, nn_bl, i_int_int, i_int_str, i_int_bool, i_int_tuple, i_int_list, n_int, nn_int, i_str_int, i_str_str, i_str_bool, i_str_tuple, i_str_list, n_str, nn_str, i_tup_int, i_tup_str, i_tup_bool, i_tup_tuple, i_tup_list, n_tup, nn_tup, i_lst_int, i_lst_str, i_lst_bool, i_lst_tuple, i_lst_list, n_lst, nn_lst, i_dic_int, i_dic_str, i_dic_bool, i_dic_tuple, i_dic_list, n_dic, nn_dic, *])

/-! ### levels -/
theorem lv_spread (k : Nat) (cell : Int) (S : List D) : ∃ w : Int, G.run (k + 1) "_law_spread" [.int cell] S = some (.int w, S) := by
  obtain ⟨w, e⟩ := spread_ok (G.run k) cell S
  exact ⟨w, by rw [run__law_spread]; exact e⟩
theorem lv_draw (k : Nat) : DrawOk (G.run (k + 2)) := fun S many h h0 h1 => by
  obtain ⟨v, S', p, v0, v1, e⟩ := draw_ok (G.run (k + 1)) (fun c S => lv_spread k c S) h h0 h1
  exact ⟨v, S', p, v0, v1, by rw [run__law_draw]; exact e⟩
theorem lv_pick (k : Nat) : PickOk (G.run (k + 3)) := fun S items h hn hl => by
  obtain ⟨d, S', hm, p, e⟩ := pick_body (G.run (k + 2)) (lv_draw k) h hn hl
  exact ⟨d, S', hm, p, by rw [run__law_pick]; exact e⟩
theorem lv_lrank : ∀ (k : Nat) (φ : Fm) (S : List D), φ.depth ≤ k → ∀ j, G.run (k + j + 2) "_law_rank" [φ.toD] S = some (.int φ.rank, S)
  | k, φ, S, h, j => by
    rw [run__law_rank]
    refine lrank_body _ S φ (by rw [show k + j + 1 = (k + j) + 1 from rfl, run__law_inner]; exact linner_ok _ S φ) fun g hg => ?_
    have hd := Fm.sub_depth hg
    cases k with
    | zero => omega
    | succ k =>
      have := lv_lrank k g S (by omega) j
      rw [show k + 1 + j + 1 = k + j + 2 by omega]
      exact this
theorem lv_same : ∀ (n : Nat) (d : D) (S : List D), Pl n d → ∀ j, G.run (n + j + 1) "_law_same" [d, d] S = some (.bl true, S)
  | n, d, S, h, j => by
    rw [run__law_same]
    refine same_body _ S h fun m x e hp => ?_
    subst e
    rw [show m + 1 + j = m + j + 1 by omega]
    exact lv_same m x S hp j
theorem lv_gen : ∀ (n k : Nat), 2 * n + 4 ≤ k → ∀ (kinds : List Str), kinds ≠ [] → kinds.length ≤ 100 → (∀ names : List Str, names ≠ [] → names.length + n ≤ 100 → FGen (G.run k) names kinds n) ∧ ∀ names : List Str, names.length + n + 1 ≤ 100 → BGen (G.run (k + 1)) names kinds (n + 1)
  | n, k, hk, kinds, hkn, hkl => by
    obtain ⟨k, rfl⟩ : ∃ j, k = j + 4 := ⟨k - 4, by omega⟩
    have F : ∀ names : List Str, names ≠ [] → names.length + n ≤ 100 → FGen (G.run (k + 4)) names kinds n := fun names hn hl S h => by
      rw [show k + 4 = (k + 3) + 1 from rfl]
      obtain ⟨φ, S', p, o, d, e⟩ := formula_body (G.run (k + 3)) (lv_draw (k + 1)) (lv_pick k) (n := n) hn hkn (by omega) (by omega) (fun m hm => by
        subst hm
        exact (lv_gen m (k + 3) (by omega) kinds hkn hkl).1 names hn (by omega)) (fun hpos => by
        obtain ⟨m, rfl⟩ : ∃ m, n = m + 1 := ⟨n - 1, by omega⟩
        exact (lv_gen m (k + 2) (by omega) kinds hkn hkl).2 names (by omega)) h
      exact ⟨φ, S', p, o, d, by rw [run__law_formula]; exact e⟩
    refine ⟨F, fun names hl S h => ?_⟩
    obtain ⟨φ, S', p, o, d, e⟩ := bound_body (G.run (k + 4)) (lv_draw (k + 2)) (lv_pick (k + 1)) (n := n) (by omega) (fun x => F (names ++ [x]) (by simp) (by simp; omega)) h
    exact ⟨φ, S', p, o, d, by rw [run__law_bound]; exact e⟩
theorem lv_sentence (n k : Nat) (hk : 2 * n + 8 ≤ k) (kinds : List Str) (hkn : kinds ≠ []) (hkl : kinds.length ≤ 100) (hn : n ≤ 20) : SGen (G.run (k + 1)) kinds (n + 2) := fun S h => by
  obtain ⟨j, rfl⟩ : ∃ j, k = j + 3 := ⟨k - 3, by omega⟩
  obtain ⟨φ, S', p, o, d, r, e⟩ := sentence_body (G.run (j + 3)) (lv_draw (j + 1)) (lv_pick j) (n := n) hkn (by omega)
    ((lv_gen (n + 1) (j + 2) (by omega) kinds hkn hkl).2 [] (by simp; omega)) ((lv_gen n (j + 2) (by omega) kinds hkn hkl).2 [] (by simp; omega)) (fun φ S hd => by
      have := lv_lrank (n + 4) φ S hd (j + 3 - (n + 6))
      rw [show n + 4 + (j + 3 - (n + 6)) + 2 = j + 3 by omega] at this
      exact this) h
  exact ⟨φ, S', p, o, d, r, by rw [run__law_sentence]; exact e⟩
theorem lv_rank : ∀ (k : Nat) (φ : Fm) (S : List D), φ.depth ≤ k → ∀ j, G.run (k + j + 2) "rank_of" [φ.toD] S = some (.int φ.rank, S)
  | k, φ, S, h, j => by
    rw [run_rank_of]
    refine rank_body _ S φ (by rw [show k + j + 1 = (k + j) + 1 from rfl, run_inner_of]; exact inner_ok _ S φ) fun g hg => ?_
    have hd := Fm.sub_depth hg
    cases k with
    | zero => omega
    | succ k =>
      have := lv_rank k g S (by omega) j
      rw [show k + 1 + j + 1 = k + j + 2 by omega]
      exact this
theorem lv_limit (fs : List Fm) (S : List D) (hl : fs.length ≤ 900) (h : ∀ f ∈ fs, f.depth ≤ 50) : G.run 59 "limit_of" [thD fs] S = some (.int (limit fs), S) := by
  rw [run_limit_of]
  exact limit_body _ S fs hl fun f hf => lv_rank 50 f S (h f hf) 6
theorem lv_llimit (fs : List Fm) (S : List D) (hl : fs.length ≤ 900) (h : ∀ f ∈ fs, f.depth ≤ 50) : G.run 59 "_law_limit" [thD fs] S = some (.int (limit fs), S) := by
  rw [run__law_limit]
  exact llimit_body _ S fs hl fun f hf => lv_lrank 50 f S (h f hf) 6
theorem pl_ints (is : List Int) (h : is.length ≤ 1000) : Pl 1 (.lst (is.map D.int)) := .lst 0 _ (by simpa using h) fun x hx => by
  obtain ⟨i, _, rfl⟩ := List.mem_map.mp hx
  exact .int 0 i
theorem same_ints (is : List Int) (S : List D) (h : is.length ≤ 1000) : G.run 59 "_law_same" [.lst (is.map D.int), .lst (is.map D.int)] S = some (.bl true, S) := lv_same 1 _ S (pl_ints is h) 57
theorem limit1 (φ : Fm) : limit [φ] = (if φ.rank > 1 then φ.rank else 1) := by
  show max 1 φ.rank = _
  split <;> omega
/-- one turn of the law's loop -/
theorem turn (φ : Fm) (hφ : φ.depth ≤ 50) (ds : List D) (x0 x1 x2 x3 x4 x5 x6 : Option SV) (S : List D) :
    forL (.name 6) (s_law_2_b (G.run 59)) (φ.toD :: ds) [x0, x1, x2, x3, x4, x5, x6] S = forL (.name 6) (s_law_2_b (G.run 59)) ds [x0, x1, x2, x3, x4, x5, some (.sh φ.toD)] S := by
  have r1 : G.run 59 "rank_of" [φ.toD] S = some (.int φ.rank, S) := lv_rank 50 φ S hφ 7
  have r2 : G.run 59 "_law_rank" [φ.toD] S = some (.int φ.rank, S) := lv_lrank 50 φ S hφ 7
  have r3 : G.run 59 "limit_of" [.tup [φ.toD]] S = some (.int (limit [φ]), S) := lv_limit [φ] S (by simp) (by simpa using hφ)
  have r4 := same_ints [φ.rank, limit [φ]] S (by simp)
  rw [limit1] at r3 r4
  have r4' : G.run 59 "_law_same" [.lst [.int φ.rank, .int (if φ.rank > 1 then φ.rank else 1)], .lst [.int φ.rank, .int (if φ.rank > 1 then φ.rank else 1)]] S = some (.bl true, S) := r4
  have r5 : maxD [.int 1, .int φ.rank] = some (.int (if φ.rank > 1 then φ.rank else 1)) := rfl
  have hb : ∀ _e : Nat, s_law_2_b (G.run 59) [x0, x1, x2, x3, x4, x5, some (.sh φ.toD)] S = some (.nx, [x0, x1, x2, x3, x4, x5, some (.sh φ.toD)], S) := by
   intro _
   unfold s_law_2_b
   walk_at "ev"
   rw [r1]
   walk_at "ev"
   rw [r3]
   walk_at "ev"
   rw [r2]
   walk_at "ev"
   rw [r2]
   walk_at "ev"
   rw [r5]
   walk_at "ev"
   rw [r4']
   walk_at "ev"
  walk_at "ev"
  rw [hb 0]
  walk_at "ev"
theorem law_plain (ns : List Int) (salt : Int) (h : ns.length ≤ 63) : ∃ env' S', b_law (G.run 59) (envL 7 1) (pool0 ns salt) = some (.ret (.bl true), env', S') := by
  have km : strsD ["k", "m"] = .lst [.str "k", .str "m"] := rfl
  have xy : strsD ["x", "y"] = .lst [.str "x", .str "y"] := rfl
  have nk : (["k", "m"] : List Str) ≠ [] := by simp
  obtain ⟨φ, S1, p1, o1, d1, e1⟩ := (lv_gen 4 59 (by omega) ["k", "m"] nk (by simp)).1 ["x", "y"] (by simp) (by simp) _ (PV.pool0 (ns := ns) (salt := salt))
  obtain ⟨ψ, S2, p2, o2, d2, q2, e2⟩ := lv_sentence 2 58 (by omega) ["k", "m"] nk (by simp) (by omega) S1 p1
  obtain ⟨th, S3, p3, l3, f3, e3⟩ := theory_body (G.run 58) (lv_draw 56) (kinds := ["k", "m"]) (n := 3) (most := 3) (by omega) (lv_sentence 1 57 (by omega) ["k", "m"] nk (by simp) (by omega)) p2
  rw [← run__law_theory] at e3
  rw [km, xy] at e1
  rw [km] at e2 e3
  have e1' : G.run 59 "_law_formula" [.pool, .lst [.str "x", .str "y"], .lst [.str "k", .str "m"], .int 4] (pool0 ns salt) = some (φ.toD, S1) := e1
  have e2' : G.run 59 "_law_sentence" [.pool, .lst [.str "k", .str "m"], .int 4] S1 = some (ψ.toD, S2) := e2
  have e3' : G.run 59 "_law_theory" [.pool, .lst [.str "k", .str "m"], .int 3, .int 3] S2 = some (thD th, S3) := e3
  have t1 := turn φ (by omega)
  have t2 := turn ψ (by omega)
  have t3 := turn (.many 5 "x" φ) (by simp only [Fm.depth]; omega)
  have t4 := turn (.many 0 "x" ψ) (by simp only [Fm.depth]; omega)
  have t5 := turn (.not (.each "z" φ)) (by simp only [Fm.depth]; omega)
  have t6 := turn (.both φ ψ) (by simp only [Fm.depth]; omega)
  simp only [Fm.toD] at t3 t4 t5 t6
  have l1 := lv_limit th S3 (by omega) (fun f hf => by have := (f3 f hf).2.1; omega)
  have l2 := lv_limit [] S3 (by simp) (by simp)
  have l3' := lv_limit [φ, ψ] S3 (by simp) (by intro f hf; simp at hf; rcases hf with rfl | rfl <;> omega)
  have l4 := lv_llimit th S3 (by omega) (fun f hf => by have := (f3 f hf).2.1; omega)
  have l6 := lv_llimit [φ, ψ] S3 (by simp) (by intro f hf; simp at hf; rcases hf with rfl | rfl <;> omega)
  have l2' : G.run 59 "limit_of" [.tup []] S3 = some (.int 1, S3) := l2
  have l3'' : G.run 59 "limit_of" [.tup [φ.toD, ψ.toD]] S3 = some (.int (limit [φ, ψ]), S3) := l3'
  have l6' : G.run 59 "_law_limit" [.tup [φ.toD, ψ.toD]] S3 = some (.int (limit [φ, ψ]), S3) := l6
  have sm := same_ints [limit th, 1, limit [φ, ψ]] S3 (by simp)
  have sm' : G.run 59 "_law_same" [.lst [.int (limit th), .int 1, .int (limit [φ, ψ])], .lst [.int (limit th), .int 1, .int (limit [φ, ψ])]] S3 = some (.bl true, S3) := sm
  have en : envL 7 1 = [none, some (.sh .pool), none, none, none, none, none] := rfl
  unfold b_law s_law_0 s_law_1
  rw [en]
  walk_at "ev"
  rw [e1']
  walk_at "ev"
  rw [e2']
  walk_at "ev"
  rw [e3']
  walk_at "ev"
  unfold s_law_2
  simp only [v_for, v_iof, v_lst, v_disp, v_cons, v_var, v_varK, v_consK1, v_consK2, v_nil, v_dispK, v_lstK, v_iofL, v_forK, v_tup, v_tupK, v_c, List.length_cons, List.length_nil, Nat.reduceAdd, Nat.reduceLeDiff, List.getElem?_cons_zero, List.getElem?_cons_succ]
  rw [t1, t2, t3, t4, t5, t6]
  walk_at "ev"
  unfold s_law_3
  walk_at "ev"
  rw [l1]
  walk_at "ev"
  rw [l2']
  walk_at "ev"
  rw [l3'']
  walk_at "ev"
  rw [l4]
  walk_at "ev"
  rw [l6']
  walk_at "ev"
  rw [sm']
  walk_at "ev"
  exact ⟨_, _, rfl⟩
end Ip

set_option maxHeartbeats 4000000
/-! IpL: from the head's facts to the law. -/
namespace Ip
open PySem L2
def DefAt (K : PySem.W.Frag) (mg : Str → Option Value) (d : DefI) : Prop := ∃ f fd, Fun K d.name d.name d.st f fd ∧ mg d.name = some (.ref f) ∧ Binds K fd d.ps []
theorem defAt {K : PySem.W.Frag} {h : Heap} {mg : Str → Option Value} {d : DefI} (X : K.In h) (G : h.Ns mainGlobals mg) {f : Addr} {od an : Option Addr} {sl : Array (Option Value)} {oc kV dc pm cd ct : Value}
    (a : PySem.W.nsIn K mainGlobals d.name = some (some (.ref f))) (l : K.lookup f = some ⟨oc, od, .func (PySem.W.fnOf d.name d.name (defArgs d.st) (defBody d.st) (defScope d.st) .none kV dc pm an cd ct), sl⟩) (c : PySem.W.codeIn K cd d.name = true) (k : PySem.W.keepIn K (.ref f) = true)
    (b : ∀ (kV doc pm : Value) (an : Option Addr) (cdv ct : Value) (us : List Value), us.length = d.ps.length → bindArgs (PySem.W.fnOf d.name d.name (defArgs d.st) (defBody d.st) (defScope d.st) .none kV doc pm an cdv ct) ⟨us, []⟩ = pure (d.ps.zip us)) : DefAt K mg d :=
  have F := fun_mk (st := d.st) l c k
  ⟨f, _, F, PySem.W.mg_of X G a, F.binds b⟩
theorem un_of {l : List DefI} (h : (l.map DefI.name).Nodup) : ∀ d ∈ l, l.find? (fun e => decide (e.name = d.name)) = some d := by
  induction l with
  | nil => intro d hd; cases hd
  | cons e l ih =>
    intro d hd
    rw [List.map_cons, List.nodup_cons] at h
    rcases List.mem_cons.mp hd with rfl | hd
    · rw [List.find?_cons_of_pos (by simp)]
    · have hne : e.name ≠ d.name := fun z => h.1 (z ▸ List.mem_map_of_mem hd)
      rw [List.find?_cons_of_neg (by simpa using hne)]
      exact ih h.2 d hd
theorem walk {l : PySem.W.OpenLaw} {q : Program} {loose : List Str} {XP : (Str → Option Value) → Heap → Prop} {YP : World → Heap → Prop} {d : DefRec} {K : Params → PySem.W.Frag} {k : Nat} (hk : k ≤ 200) (hn : l.most = some 63) (hdf : d.params.defaults = [])
    (hY : ∀ (w : World) (h : Heap), YP w h → (K w.params).In h)
    (F : ∀ (w : World) (mg : Str → Option Value) (fa : Addr) (h : Heap), (K w.params).In h → h.Ns mainGlobals mg → mg d.name = some (.ref fa) →
      ∃ fd : FuncData, (∀ (s : Shared) (u : Value), BindsTo s fd ⟨[u], []⟩ [("script", u)]) ∧ ∀ base : Heap, (K w.params).In base → base.Ns mainGlobals mg → FnOk l.prog w (K w.params) mg base CX0 k fa fd ["script"] (spLaw (K w.params))) :
    PySem.W.WalkO q loose XP YP l.row.toRowW d [] (fun f vs => PySem.call f vs) :=
  L2.walk_of (n := 63) (k := k) (x := "script") (CX := fun _ => CX0) (sp := fun w => spLaw (K w.params)) hn (by decide) hdf (Room.mono (k := 200) ⟨rfl, by decide, by decide⟩ hk) hY F (fun _ _ a ns hl _ hS => ⟨a, ns, rfl, hS, hl, fun _ => rfl⟩) fun _ _ _ _ _ z => z
end Ip

set_option maxHeartbeats 4000000
namespace Ip
open PySem L2
theorem body_law : ∃ (q1 q2 q3 q4 q5 : Pos) (rest : List Stmt), defBody i_law.st = .Assign [.Name "pool" q1] (.Call (.Name "_law_pool" q2) [.Name "script" q3] [] q4) q5 :: rest ∧ compSs 60 (G.ctx i_law) rest = some b_law := ⟨_, _, _, _, _, _, rfl, by kernel_rfl⟩
theorem scP : FnScope ["script", "salt", "cell"] ["script"] (defScope i__law_pool.st) := ⟨rfl, rfl, rfl, by decide +kernel, rfl, by decide +kernel, by decide +kernel⟩
theorem ok_pool {P : Program} {w : World} {K : PySem.W.Frag} {mg : Str → Option Value} {base : Heap} {k : Nat} {f : Addr} {fd : FuncData} (F : Fun K "_law_pool" "_law_pool" i__law_pool.st f fd) (mi : mg "int" = none) (ml : mg "list" = none) : FnOk P w K mg base CX0 (k + 1) f fd ["script"] (spPool K) := by
  refine F.ok scP (fun vs H Q E h => ?_) (fun cdv A outer s H vs Q E hr h => ?_)
  · obtain ⟨a, ns, rfl, _⟩ := h
    rfl
  obtain ⟨a, ns, rfl, hS, h63, q⟩ := h
  refine ⟨_, pss_cons (ps_set (i := 1) scP.nd rfl (.inl rfl) pe_int)
    (pss_cons (ps_for PassesOwn.never rfl (pi_list (pe_slice sl_list (pv 0) po_none (po_some pe_int))) (pg_name (i := 2) scP.nd rfl (.inl rfl))
      (pss_one (ps_set (i := 1) scP.nd rfl (.inl rfl) (pe_op op_mod (pe_callTy call_int1 (by rfl) mi (by decide +kernel) (pa_cons (pe_op op_add (pe_op op_mul (pv 1) pe_int) (pv 2)) pa_nil)) pe_int))))
    (pss_one (ps_ret (pe_lst (pa_cons (pe_callTy call_list_of (by rfl) ml (by decide +kernel) (pa_cons (pv 0) pa_nil)) (pa_cons pe_int (pa_cons pe_int (pa_cons pe_int (pa_cons (pv 1) pa_nil))))))))), ?_⟩
  have cut : ∀ hi : Option Int, ∃ ms : List Int, cutV (ns.map V.int) none hi = ms.map V.int := fun hi => by
    unfold cutV
    rw [← List.map_drop, ← List.map_take]
    exact ⟨_, rfl⟩
  obtain ⟨ms, em⟩ := cut (some 63)
  refine ⟨.ref a, rfl, 63, rfl, a, ns.map V.int, rfl, hS, fun c nc => ?_⟩
  rw [em]
  have s1 : Same H (upd H c (.lst (ms.map V.int))) := same_new nc
  have hC : SqL K (upd H c (.lst (ms.map V.int))) c (ms.map V.int) := .inl (.inl upd_same)
  refine ⟨c, rfl, ⟨_, hC⟩, fun i m σ H3 => ∃ (z : Int) (y : Option V), σ = [some (.ref a), some (.int z), y] ∧ i + m = ms.length ∧ H3 = upd H c (.lst (ms.map V.int)), ⟨ms.length, 7, none, rfl, by omega, rfl⟩, fun i m σ H3 hW => ?_⟩
  obtain ⟨z, y, rfl, hm, rfl⟩ := hW
  by_cases hi : i < ms.length
  · have g : (ms.map V.int)[i]? = some (.int ms[i]) := by
      rw [List.getElem?_map, List.getElem?_eq_getElem hi]
      rfl
    refine .inr ⟨⟨_, _, hC, g⟩, fun σ' H' => ∃ (z : Int) (y : Option V), σ' = [some (.ref a), some (.int z), y] ∧ H' = upd H c (.lst (ms.map V.int)), fun σ' H' hN => ?_, fun v H' hy => ?_⟩
    · obtain ⟨z', y', e1, e2⟩ := hN
      exact ⟨m - 1, by omega, z', y', e1, by omega, e2⟩
    · obtain ⟨rfl, fv⟩ := hy
      have ev : v = .int ms[i] := Option.some.inj ((fv _ hC).symm.trans g)
      subst ev
      refine ⟨_, rfl, _, _, rfl, rfl, .inr ⟨by decide, by decide⟩, .int ms[i], rfl, _, _, rfl, rfl, .inl ⟨_, rfl, _, _, rfl, rfl, (by show (0 : Int) < 1000003; decide), ?_⟩⟩
      exact ⟨_, _, rfl, rfl⟩
  · have hl : i = ms.length := by omega
    refine .inl ⟨⟨_, hC, by rw [List.length_map, hl]; exact Nat.le_refl _⟩, ?_⟩
    refine ⟨.ref a, rfl, a, ns.map V.int, rfl, .inl (s1.seq hS), fun l nl => ⟨.int z, rfl, (by show 5 ≤ sizeLine; decide), fun p np => ?_⟩⟩
    have s2 : Same (upd H c (.lst (ms.map V.int))) (upd (upd H c (.lst (ms.map V.int))) l (.lst (ns.map V.int))) := same_new nl
    have nlp : l ≠ p := fun z => by
      rw [← z, upd_same] at np
      cases np
    refine q z l p _ ((s1.trans s2).trans (same_new np)) ((s1.trans s2).free np) (s1.free nl) nlp ?_ upd_same
    rw [upd_ne nlp]
    exact upd_same

theorem nodup_defs : (G.defs.map DefI.name).Nodup := by decide +kernel
theorem all_mk {l : PySem.W.OpenLaw} {w : World} {K : PySem.W.Frag} {mg : Str → Option Value} {fa : Addr} (hfa : mg "law" = some (.ref fa)) (hL : DefAt K mg i_law) (hP : DefAt K mg i__law_pool) (hD : ∀ d ∈ G.defs, DefAt K mg d)
    (hB : ∀ x ∈ G.bls, mg x = none) (hC : ∀ (p : Addr) x d, G.cs.lookup x = some d → ∃ u v, mg x = some u ∧ RelV v u ∧ ∀ B H, Rep K p B H v d) (mi : mg "int" = none) (ml : mg "list" = none) :
    ∃ fd : FuncData, (∀ (s : Shared) (v : Value), BindsTo s fd ⟨[v], []⟩ [("script", v)]) ∧ ∀ base : Heap, K.In base → base.Ns mainGlobals mg → FnOk l.prog w K mg base CX0 60 fa fd ["script"] (spLaw K) := by
  obtain ⟨f, fd, F, m, b⟩ := hL
  have e : fa = f := Value.ref.inj (Option.some.inj (hfa.symm.trans m))
  subst e
  obtain ⟨fp, fpd, FP, mp, bp⟩ := hP
  obtain ⟨q1, q2, q3, q4, q5, rest, hb, hc⟩ := body_law
  refine ⟨fd, ?_, fun base _ _ => ?_⟩
  · obtain ⟨oc, od, kV, doc, pm, an, cdv, ct, osl, rfl, lk, hcd⟩ := F.ex
    exact fun s v => .of_eq rfl
  · exact ok_law (G := G) (d := i_law) (k := 59) (j := 1) (fun p => ⟨hD, hB, hC p⟩) (un_of nodup_defs) rfl rfl F (by kernel_rfl) (ok_pool FP mi ml) mp FP.kp bp hb (by kernel_rfl) (by kernel_rfl) (by kernel_rfl) (by kernel_rfl) (by kernel_rfl) hc law_plain
end Ip
open PySem PySem.W PyProof.Rows
set_option maxRecDepth 100000 in
set_option maxHeartbeats 0 in
theorem PySem.Challenge.cw_kindcounts_k02_ranks_told_holds : PySem.Challenge.rw_kindcounts_k02_ranks_told.Holds := by
  w_on; o_law; k_head; (case hw => w_witness2)
  k_fill
  refine Ip.walk (l := PySem.Challenge.rw_kindcounts_k02_ranks_told) (k := 60) (by decide) rfl rfl (fun w h Y => PySem.W.kIn_of Y) ?F
  case F =>
    intro w mg fa h KX G hmg
    refine Ip.all_mk hmg ?d_law ?d__law_pool (List.forall_mem_cons.mpr ⟨?d_inner_of, (List.forall_mem_cons.mpr ⟨?d_rank_of, (List.forall_mem_cons.mpr ⟨?d_limit_of, (List.forall_mem_cons.mpr ⟨?d__law_spread, (List.forall_mem_cons.mpr ⟨?d__law_draw, (List.forall_mem_cons.mpr ⟨?d__law_pick, (List.forall_mem_cons.mpr ⟨?d__law_bound, (List.forall_mem_cons.mpr ⟨?d__law_formula, (List.forall_mem_cons.mpr ⟨?d__law_inner, (List.forall_mem_cons.mpr ⟨?d__law_rank, (List.forall_mem_cons.mpr ⟨?d__law_sentence, (List.forall_mem_cons.mpr ⟨?d__law_theory, (List.forall_mem_cons.mpr ⟨?d__law_same, (List.forall_mem_cons.mpr ⟨?d__law_limit, (List.forall_mem_nil _)⟩)⟩)⟩)⟩)⟩)⟩)⟩)⟩)⟩)⟩)⟩)⟩)⟩)⟩) (List.forall_mem_cons.mpr ⟨?y_bool, (List.forall_mem_cons.mpr ⟨?y_int, (List.forall_mem_cons.mpr ⟨?y_isinstance, (List.forall_mem_cons.mpr ⟨?y_len, (List.forall_mem_cons.mpr ⟨?y_list, (List.forall_mem_cons.mpr ⟨?y_max, (List.forall_mem_cons.mpr ⟨?y_range, (List.forall_mem_cons.mpr ⟨?y_str, (List.forall_mem_cons.mpr ⟨?y_tuple, (List.forall_mem_nil _)⟩)⟩)⟩)⟩)⟩)⟩)⟩)⟩)⟩) (fun p x d h => by cases h) ?z_int ?z_list
    case d_law => refine' Ip.defAt KX G ?a_17 ?l_17 ?c_17 ?k_17 (fun _ _ _ _ _ _ us hl => match us, hl with | [_], _ => rfl); (case a_17 => k_is); (case l_17 => k_is); (case c_17 => k_is); (case k_17 => k_is)
    case d__law_pool => refine' Ip.defAt KX G ?a_5 ?l_5 ?c_5 ?k_5 (fun _ _ _ _ _ _ us hl => match us, hl with | [_], _ => rfl); (case a_5 => k_is); (case l_5 => k_is); (case c_5 => k_is); (case k_5 => k_is)
    case d_inner_of => refine' Ip.defAt KX G ?a_1 ?l_1 ?c_1 ?k_1 (fun _ _ _ _ _ _ us hl => match us, hl with | [_], _ => rfl); (case a_1 => k_is); (case l_1 => k_is); (case c_1 => k_is); (case k_1 => k_is)
    case d_rank_of => refine' Ip.defAt KX G ?a_2 ?l_2 ?c_2 ?k_2 (fun _ _ _ _ _ _ us hl => match us, hl with | [_], _ => rfl); (case a_2 => k_is); (case l_2 => k_is); (case c_2 => k_is); (case k_2 => k_is)
    case d_limit_of => refine' Ip.defAt KX G ?a_3 ?l_3 ?c_3 ?k_3 (fun _ _ _ _ _ _ us hl => match us, hl with | [_], _ => rfl); (case a_3 => k_is); (case l_3 => k_is); (case c_3 => k_is); (case k_3 => k_is)
    case d__law_spread => refine' Ip.defAt KX G ?a_6 ?l_6 ?c_6 ?k_6 (fun _ _ _ _ _ _ us hl => match us, hl with | [_], _ => rfl); (case a_6 => k_is); (case l_6 => k_is); (case c_6 => k_is); (case k_6 => k_is)
    case d__law_draw => refine' Ip.defAt KX G ?a_7 ?l_7 ?c_7 ?k_7 (fun _ _ _ _ _ _ us hl => match us, hl with | [_, _], _ => rfl); (case a_7 => k_is); (case l_7 => k_is); (case c_7 => k_is); (case k_7 => k_is)
    case d__law_pick => refine' Ip.defAt KX G ?a_8 ?l_8 ?c_8 ?k_8 (fun _ _ _ _ _ _ us hl => match us, hl with | [_, _], _ => rfl); (case a_8 => k_is); (case l_8 => k_is); (case c_8 => k_is); (case k_8 => k_is)
    case d__law_bound => refine' Ip.defAt KX G ?a_9 ?l_9 ?c_9 ?k_9 (fun _ _ _ _ _ _ us hl => match us, hl with | [_, _, _, _], _ => rfl); (case a_9 => k_is); (case l_9 => k_is); (case c_9 => k_is); (case k_9 => k_is)
    case d__law_formula => refine' Ip.defAt KX G ?a_10 ?l_10 ?c_10 ?k_10 (fun _ _ _ _ _ _ us hl => match us, hl with | [_, _, _, _], _ => rfl); (case a_10 => k_is); (case l_10 => k_is); (case c_10 => k_is); (case k_10 => k_is)
    case d__law_inner => refine' Ip.defAt KX G ?a_11 ?l_11 ?c_11 ?k_11 (fun _ _ _ _ _ _ us hl => match us, hl with | [_], _ => rfl); (case a_11 => k_is); (case l_11 => k_is); (case c_11 => k_is); (case k_11 => k_is)
    case d__law_rank => refine' Ip.defAt KX G ?a_12 ?l_12 ?c_12 ?k_12 (fun _ _ _ _ _ _ us hl => match us, hl with | [_], _ => rfl); (case a_12 => k_is); (case l_12 => k_is); (case c_12 => k_is); (case k_12 => k_is)
    case d__law_sentence => refine' Ip.defAt KX G ?a_13 ?l_13 ?c_13 ?k_13 (fun _ _ _ _ _ _ us hl => match us, hl with | [_, _, _], _ => rfl); (case a_13 => k_is); (case l_13 => k_is); (case c_13 => k_is); (case k_13 => k_is)
    case d__law_theory => refine' Ip.defAt KX G ?a_14 ?l_14 ?c_14 ?k_14 (fun _ _ _ _ _ _ us hl => match us, hl with | [_, _, _, _], _ => rfl); (case a_14 => k_is); (case l_14 => k_is); (case c_14 => k_is); (case k_14 => k_is)
    case d__law_same => refine' Ip.defAt KX G ?a_15 ?l_15 ?c_15 ?k_15 (fun _ _ _ _ _ _ us hl => match us, hl with | [_, _], _ => rfl); (case a_15 => k_is); (case l_15 => k_is); (case c_15 => k_is); (case k_15 => k_is)
    case d__law_limit => refine' Ip.defAt KX G ?a_16 ?l_16 ?c_16 ?k_16 (fun _ _ _ _ _ _ us hl => match us, hl with | [_], _ => rfl); (case a_16 => k_is); (case l_16 => k_is); (case c_16 => k_is); (case k_16 => k_is)
    case y_bool => exact PySem.W.mg_none_of KX G (by k_is)
    case y_int => exact PySem.W.mg_none_of KX G (by k_is)
    case y_isinstance => exact PySem.W.mg_none_of KX G (by k_is)
    case y_len => exact PySem.W.mg_none_of KX G (by k_is)
    case y_list => exact PySem.W.mg_none_of KX G (by k_is)
    case y_max => exact PySem.W.mg_none_of KX G (by k_is)
    case y_range => exact PySem.W.mg_none_of KX G (by k_is)
    case y_str => exact PySem.W.mg_none_of KX G (by k_is)
    case y_tuple => exact PySem.W.mg_none_of KX G (by k_is)
    case z_int => exact PySem.W.mg_none_of KX G (by k_is)
    case z_list => exact PySem.W.mg_none_of KX G (by k_is)

